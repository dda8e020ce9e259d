/- Contracts of functions and laws, for the claim on TurnSquares. -/
import Derived.Test.YtcnlagnipklcmaaGreatDoorBTurnSquares3
set_option linter.unusedVariables false
set_option linter.unusedSimpArgs false
set_option exponentiation.threshold 10000000
noncomputable section
open Go.IntKind(i8 i16 i32 i64 u8 u16 u32 u64)
open Go.Proofs.Tryz
open Rat renaming le_of_lt->bRD,le_refl->bSK,intCast_natCast->bWO,natCast_add->bWI,le_trans->bRB,intCast_neg->bWX,mul_pos->bRP,mul_assoc->bXG,intCast_mul->bWR,mul_comm->bYQ,natCast_mul->bSW,intCast_add->bXT,mul_le_mul_of_nonneg_right->bZU
open Nat renaming le_trans->bMS,pow_add->bQX,pow_succ->bQV,pow_pos->bOV,sub_le->bSU,pow_le_pow_right->bOW,zero_le->bRZ,le_refl->bLW,lt_of_le_of_lt->bSL,lt_of_lt_of_le->bMW,div_le_self->bUJ,pow_lt_pow_right->bSP,add_comm->bRX,mul_assoc->bQZ,mul_comm->bQU,mod_lt->bOE,zero_div->bVQ,div_div_eq_div_mul->bRN,one_mul->bPZ,mul_le_mul_right->bNJ,div_lt_of_lt_mul->bRQ,add_zero->bMX,zero_add->bLY,div_add_mod->bRC,mul_lt_mul''->bUK,lt_succ_self->bYG,mul_le_mul_left->bOK,mul_le_mul->bWK,div_eq_of_lt->bRT
open Int renaming toNat_natCast->bPS,toNat->bZQ,eq_ofNat_of_zero_le->bQY,natAbs_natCast->bRO,natAbs->bVY,natAbs_neg->bSQ,tdiv_eq_ediv_of_nonneg->bTL,natCast_mul->bRU,tmod_eq_emod_of_nonneg->bTM,natCast_nonneg->bVP,natCast_add->bZT,mul_ediv_mul_of_pos_left->bZV
open Bool renaming not_true->bNW,or_true->bRV,true_and->bOX,true_or->bRG,false_or->bNX,false_and->bRF,and_eq_true->bMC,and_false->bRI,not_false->bXU,and_eq_false_iff->bYK
open List renaming replicate->bNZ,length_nil->bPH,nil_append->bPY,length_drop->bPV,length_append->bMZ,length_cons->bPG,append_assoc->bNR,take_of_length_le->bTH,getD_eq_getElem?_getD->bRA,take_succ_eq_append_getElem->bSB
open Option renaming bind_eq_some_iff->bOD
namespace Go.Proofs.YtcnlagnipklcmaaGreatDoor
open Go.Value(int bool slice)
open AI.S(sc ints)
namespace W
open Go AI M
namespace aP
def E:=mE [(153,Bo.aH),(221,THalvings.aH),(222,sL.aH),(223,TSums.aH),(122,iY.aH),(117,mM.aH),(224,Hy.aH),(126,sT.aH)] 91 [41,56,59,74,84] [(10,[4,5,7,10,12,50,51])] []
def aE:=bd f195
theorem aU:Nk E aE:=nk
def Im a b c d e f g:=nO E f195 aE 10 [fW a,fW b,bP c,bP d,fW e,bP f,bP g]
theorem start a c d b:aF E f195 aE [D.agg [sc (bool a),ints u64 c,sc (int i64 d)],D.s (sc (int i64 b))]=letI H:=dv (a,c,d);letI G:=M6.dg 1;aO (aJ (a,c,d)) (aC (if H.fst=0 then(0:Int)else d+(↑(bl (M6.val c)):Int)-(1:Int)) fun e=>aO (i64.wrap (i64.wrap (b+80)-if 0<e then(0:Int)else e)<=150000) (aC (↑(THalvings.hlv (i64.wrap (i64.wrap (b+80)-if 0<e then(0:Int)else e)) 200 4):Int) fun f=>letI B:=i64.wrap (i64.wrap (b+80)-match BinOp.lss with |BinOp.gtr=>if(0:Int)>e then(0:Int)else e |x=>if 0<e then(0:Int)else e)+i64.wrap ((2:Int)*f);letI A:=i64.wrap (i64.wrap (b+80)-if 0<e then(0:Int)else e)+i64.wrap ((2:Int)*f);letI F:=i64.wrap A+f;letI C:=i64.wrap F;aO (aJ (a,c,d)/\(-1099511627776:Int)<=i64.wrap A/\i64.wrap A<=1099511627776/\(0<=(a,c,d).snd.snd+i64.wrap B->fit (H.fst.natAbs*(2:Nat)^((a,c,d).snd.snd+i64.wrap B).toNat)=true)) (aC (M6.dg (sL.aHK H (i64.wrap A))) fun g=>aO (M6.cF g/\0<=i64.wrap F/\i64.wrap F<=150000/\(2:Nat)*M6.val g<=(2:Nat)^C.toNat) (aC (M6.dg (TSums.So (M6.val g) C.toNat)) fun h=>aC (M6.dg (TSums.Sp (M6.val g) C.toNat)) fun i=>aO ((0:Int)<=(1:Int)/\(1:Int)<(18446744073709551616:Int)) (aO (M6.cF G/\G.length<=8192/\0<=i64.wrap F/\i64.wrap F<4611686018427387904) (aC (bif iY.iC (M6.val G) C.toNat then M6.dg (M6.val G*(2:Nat)^C.toNat)else []) fun j=>aP.Im h i C f j f 0)))))):=eJ aU
theorem sM a b c d e f g:Im a b c d e f g=letI B:=M6.dg 1;letI A:=i64.wrap ((2:Int)*d)+22;aB (decide (g<f)) (aO (M6.cF a/\M6.cF b/\a.length<=4096/\b.length<=4096/\0<=c/\c<4611686018427387904) (aC (M6.dg (M6.val a*M6.val b/(2:Nat)^c.toNat)) fun h=>aO (M6.cF h/\h.length<=8192/\(0:Int)<=(1:Int)/\(1:Int)<(4611686018427387904:Int)) (aC (bif iY.iC (M6.val h) 1 then M6.dg (M6.val h*2)else []) fun i=>aO (M6.cF a/\M6.cF a/\a.length<=4096/\a.length<=4096/\0<=c/\c<4611686018427387904) (aC (M6.dg (M6.val a*M6.val a/(2:Nat)^c.toNat)) fun j=>aO (M6.cF j/\j.length<=8192/\(0:Int)<=(1:Int)/\(1:Int)<(4611686018427387904:Int)) (aC (bif iY.iC (M6.val j) 1 then M6.dg (M6.val j*2)else []) fun k=>aO (M6.cF e/\M6.cF k/\e.length<=8192/\k.length<=8192) (aC (M6.dg (M6.val e-M6.val k)) fun l=>aP.Im i l c d e f (i64.wrap (g+1)))))))) (aO ((0:Int)<=(1:Int)/\(1:Int)<(18446744073709551616:Int)) (aO (M6.cF B/\B.length<=8192/\0<=i64.wrap A/\i64.wrap A<4611686018427387904) (aC (bif iY.iC (M6.val B) (i64.wrap A).toNat then M6.dg (M6.val B*(2:Nat)^(i64.wrap A).toNat)else []) fun m=>some [D.s (ints u64 a),D.s (ints u64 b),D.s (ints u64 m),D.s (sc (int i64 c))]))):=lJ aU
def gM(x:Int×Int):Int:=if x.1=0 then 0 else x.2+(bl x.1.natAbs:Nat)-1
def w0(x:Int×Int)(p:Int):Int:=p+80-if 0<gM x then 0 else gM x
def hv(x:Int×Int)(p:Int):Nat:=THalvings.hlv (w0 x p) 200 4
def w1(x:Int×Int)(p:Int):Int:=w0 x p+2*(hv x p:Nat)
def w2(x:Int×Int)(p:Int):Int:=w1 x p+(hv x p:Nat)
def bU(x:Int×Int)(p:Int):Nat:=sL.aHK x (w1 x p)
def yQ(x:Int×Int)(p:Int):Nat×Nat:=R.Cr (2^(w2 x p).toNat) (hv x p) (TSums.So (bU x p) (w2 x p).toNat) (TSums.Sp (bU x p) (w2 x p).toNat)
def sp(x:dR)(p:Int):Prop×List D:=(aJ x/\(1<=p/\p<=70000)/\(-70000<=gM (dv x)/\gM (dv x)<=100)/\bU (dv x) p<=2^(w1 (dv x) p).toNat,
 [.s (.ints .u64 (M6.dg (yQ (dv x) p).1)),.s (.ints .u64 (M6.dg (yQ (dv x) p).2)),.s (.ints .u64 (M6.dg (2^(2*hv (dv x) p+22)))),.s (.sc (.int .i64 (w2 (dv x) p)))])
theorem Tq(w:Int):∀f h,THalvings.hlv w f h<=h+f/\h<=THalvings.hlv w f h
 |0,h=>⟨bLW _,bLW _⟩
 |f+1,h=>by
  unfold THalvings.hlv;have:=Tq w f (h+1);split <;> omega
theorem aBM{u W:Nat}(hu:u<=W):∀f k a b c d,a<=k*W->b<=k*W->c<=k*W->d<=k*W ->
  (TSums.tay u W f k a b c d).1<=(k+f)*W/\(TSums.tay u W f k a b c d).2.1<=(k+f)*W
 |0,k,a,b,c,d,ha,hb,_,_=>⟨ha,hb⟩
 |f+1,k,a,b,c,d,ha,hb,hc,hd=>by
  have hs:=TSums.Fx hu k;have e:(k+1)*W=k*W+W:=by rw[Nat.add_mul,bPZ]
  have e2:k*W<=(k+(f+1))*W:=bNJ _ (by omega);have e3:k+1+f=k+(f+1):=by omega
  have r:=fun a b c d h1 h2 h3 h4=>e3▸aBM hu f (k+1) a b c d h1 h2 h3 h4
  unfold TSums.tay;split
  ·exact⟨bMS ha e2,bMS hb e2⟩
  ·split
   ·exact r _ _ _ _ (by omega) (by omega) (by omega) (by omega)
   ·split
    ·exact r _ _ _ _ (by omega) (by omega) (by omega) (by omega)
    ·split
     ·exact r _ _ _ _ (by omega) (by omega) (by omega) (by omega)
     ·exact r _ _ _ _ (by omega) (by omega) (by omega) (by omega)
theorem L{w:Nat}(hw:w<=150000)(x3:Nat)(h3:x3<=1000):∀(d k s c:Nat),k+d=x3->s<2^(w+20*(k+1))->c<2^(w+18)->k+d<=210 ->
  Im (M6.dg s) (M6.dg c) w x3 (M6.dg (2^w)) x3 k=some [.s (.ints .u64 (M6.dg (R.Cr (2^w) d s c).1)),.s (.ints .u64 (M6.dg (R.Cr (2^w) d s c).2)),.s (.ints .u64 (M6.dg (2^(2*x3+22)))),.s (.sc (.int .i64 w))]
 |0,k,s,c,hk,hs,hc,hb=>by
  have e1:i64.wrap (2*(x3:Int))=2*(x3:Int):=wrap_i64;have e2:i64.wrap (2*(x3:Int)+22)=((2*x3+22:Nat):Int):=by rw[wrap_i64];omega
  have so:iY.iC 1 (2*x3+22)=true:=by
   unfold iY.iC;rw[show bl 1=1 from rfl,decide_eq_true (show 1+(2*x3+22)<=524288 by omega),bRV]
  have l1:(M6.dg 1).length<=8192:=dC.jW (k:=1) (by decide) (by decide);rw[sM,aI,e1,e2];simp only[aK,M6.bI,bPS,so,cond_true,bPZ];rw[gP ⟨by decide,by decide⟩,gP ⟨M6.aW _,l1,by omega,by omega⟩];rfl
 |d+1,k,s,c,hk,hs,hc,hb=>by
  have e:i64.wrap ((k:Int)+1)=((k+1:Nat):Int):=by rw[wrap_i64];omega
  have ls:(M6.dg s).length<=4096:=eQ (k:=4096) (bMS (dU.2 hs) (by omega));have lc:(M6.dg c).length<=4096:=eQ (k:=4096) (bMS (dU.2 hc) (by omega));have W0:0<2^w:=bOV (by decide);have b1:s*c/2^w<2^(w+20*(k+1)+18):=by
   apply bRQ;have:2^w*2^(w+20*(k+1)+18)=2^(w+20*(k+1))*2^(w+18):=by rw[<-bQX,<-bQX];congr 1;omega
   rw[this];exact bUK hs hc
  have b2:s*s/2^w<2^(w+40*(k+1)):=by
   apply bRQ;have:2^w*2^(w+40*(k+1))=2^(w+20*(k+1))*2^(w+20*(k+1)):=by rw[<-bQX,<-bQX];congr 1;omega
   rw[this];exact bUK hs hs
  have so:∀n,bl n<=500000->iY.iC n 1=true:=fun n hn=>by
   unfold iY.iC;rw[decide_eq_true (show bl n+1<=524288 by omega),bRV]
  have f1:=so _ (bMS (dU.2 b1) (by omega));have f2:=so _ (bMS (dU.2 b2) (by omega));have b3:s*s/2^w*2<2^(w+40*(k+1)+1):=by rw[bQV];omega
  have b4:s*c/2^w*2<2^(w+20*(k+1+1)):=by
   have:2^(w+20*(k+1)+18)*2<=2^(w+20*(k+1+1)):=by rw[<-bQV];exact bOW (by decide) (by omega)
   omega
  have b5:2^w-s*s/2^w*2<2^(w+18):=bSL (bSU _ _) (bSP (by decide) (by omega));rw[sM,aN];simp only[aK,M6.bI,bPS,f1,f2,cond_true,e];rw[gP ⟨M6.aW _,M6.aW _,ls,lc,by omega,by omega⟩,gP ⟨M6.aW _,dC.jW b1 (by omega),by decide,by decide⟩,gP ⟨M6.aW _,M6.aW _,ls,ls,by omega,by omega⟩,gP ⟨M6.aW _,dC.jW b2 (by omega),by decide,by decide⟩,
   gP ⟨M6.aW _,M6.aW _,dC.jW (bSP (by decide) (bYG w)) (by omega),dC.jW b3 (by omega)⟩]
  have r:=L hw x3 h3 d (k+1) (s*c/2^w*2) (2^w-s*s/2^w*2) (by omega) b4 b5 (by omega);rw[R.Kr,bQU 2 (s*c/2^w),bQU 2 (s*s/2^w)];exact r
theorem spec:fI E f195 aE gZ (pN .i64) sp:=by
 rintro x p ⟨hx,⟨p0,p1⟩,⟨t0,t1⟩,hu⟩;refine(start x.1 x.2.1 x.2.2 p).trans ?_;have he:=hx.2.1;have ha:(dv x).1.natAbs=M6.val x.2.1:=iW (x.1,x.2.1);have hT:(if(dv (x.1,x.2.1,x.2.2)).1=0 then 0 else x.2.2+(bl (M6.val x.2.1):Int)-1)=gM (dv x):=by rw[<-ha];rfl
 have aQY:w0 (dv x) p=p+80-if 0<gM (dv x)then 0 else gM (dv x):=rfl
 have r0:1<=w0 (dv x) p/\w0 (dv x) p<=140080:=by rw[aQY];split <;> omega
 have e1:i64.wrap (p+80)=p+80:=wrap_i64;have e2:i64.wrap (p+80-if 0<gM (dv x)then 0 else gM (dv x))=w0 (dv x) p:=by rw[<-aQY];exact wrap_i64
 have hh:=Tq (w0 (dv x) p) 200 4;have hv0:THalvings.hlv (w0 (dv x) p) 200 4=hv (dv x) p:=rfl;rw[hv0]at hh;have aUV:w1 (dv x) p=w0 (dv x) p+2*((hv (dv x) p:Nat):Int):=rfl;have bKD:w2 (dv x) p=w1 (dv x) p+((hv (dv x) p:Nat):Int):=rfl;have e3:i64.wrap (2*((hv (dv x) p:Nat):Int))=2*((hv (dv x) p:Nat):Int):=wrap_i64;have e4:i64.wrap (w0 (dv x) p+2*((hv (dv x) p:Nat):Int))=w1 (dv x) p:=by rw[aUV];exact wrap_i64
 have e5:i64.wrap (w1 (dv x) p+((hv (dv x) p:Nat):Int))=w2 (dv x) p:=by rw[bKD];exact wrap_i64
 have hU:sL.aHK (dv x) (w1 (dv x) p)=bU (dv x) p:=rfl;have aSR:(x.1,x.2.1,x.2.2)=x:=rfl;simp only[hT,aK,e1,e2,hv0,e3,e4,e5,aSR,M6.bI,hU];obtain⟨w,hw⟩:=bQY (show 0<=w2 (dv x) p by omega);have bKH:2*bU (dv x) p<=2^w:=by
  have:2^(w1 (dv x) p).toNat*2<=2^w:=by rw[<-bQV];exact bOW (by decide) (by omega)
  omega
 have so:iY.iC 1 w=true:=by
  unfold iY.iC;rw[show bl 1=1 from rfl,decide_eq_true (show 1+w<=524288 by omega),bRV]
 have l1:(M6.dg 1).length<=8192:=dC.jW (k:=1) (by decide) (by decide);have Ji:0<=x.2.2+w1 (dv x) p->fit ((dv x).1.natAbs*2^(x.2.2+w1 (dv x) p).toNat)=true:=fun hc=>by
  have:bU (dv x) p=(dv x).1.natAbs*2^(x.2.2+w1 (dv x) p).toNat:=by
   rw[<-hU];unfold sL.aHK;exact if_pos hc
  rw[<-this];exact decide_eq_true (bMS (dU.2 (bSL hu (bSP (by decide) (bYG _)))) (by omega))
 unfold sp yQ;dsimp only;have hwb:w<=141000:=by omega
 rw[hw];rw[bPS,so,cond_true,bPZ];rw[gP hx,gP,gP ⟨hx,by omega,by omega,Ji⟩,gP ⟨M6.aW _,by omega,by omega,bKH⟩,gP ⟨by decide,by decide⟩,gP ⟨M6.aW _,l1,by omega,by omega⟩];obtain⟨g1,g2⟩:=aBM (u:=bU (dv x) p) (W:=2^w) (by omega) (w+1) 0 0 0 0 0 (by omega) (by omega) (by omega) (by omega);have pw:(0+(w+1))*2^w<2^(w+18):=by
  rw[bQX,bQU];exact Nat.mul_lt_mul_of_pos_left (by omega) (bOV (by decide))
 have hs:TSums.So (bU (dv x) p) w<2^(w+18):=bSL (bMS (bSU _ _) g2) pw;have hc:TSums.Sp (bU (dv x) p) w<2^(w+18):=bSL (bMS (bSU _ _) g1) pw;exact L (by omega) (hv (dv x) p) (by omega) (hv (dv x) p) 0 _ _ (by omega) (bMW hs (bOW (by decide) (by omega))) hc (by omega)
def aH:dG:=orc2 gZ (pN .i64) sp
theorem ok:OK 195 aH:=(eF E aE (aA Bo.ok (aA THalvings.ok (aA sL.ok (aA TSums.ok (aA iY.ok (aA mM.ok (aA Hy.ok (aA sT.ok aD)))))))) func195).lA rfl spec
end aP
namespace Rz
def E:=mE [(164,xO.aH),(61,kA.aH),(166,bR.aH)] 25 [22] [] []
def aE:=bd f155
theorem aU:Nk E aE:=nk
theorem start a d e b c:aF E f155 aE [D.agg [sc (bool a),ints u64 d,sc (int i64 e)],D.s (sc (int i64 b)),D.s (sc (bool c))]=letI A:=bR.lO c (wv (a,d)) e b;letI B:=bif fM A.fst A.snd then aL A.fst A.snd else((0:Int),(0:Int));aO True (aC (decide (1<=b)&&decide (b<=70000)) fun f=>aB (!f) (some [D.agg [sc (bool false),sc (slice none 0 0),sc (int i64 0)],D.s (sc (int i64 1))]) (aO (aJ (a,d,e)) (aO (jY (a,d)/\((-4611686018427387904:Int)<=e/\e<4611686018427387904)/\1<=b/\b<=70000) (aC (isNeg B.fst) fun g=>aC (M6.dg B.fst.natAbs) fun h=>aC B.snd fun i=>aC (bif fM A.fst A.snd then(0:Int)else(5:Int)) fun j=>some [D.agg [sc (bool g),ints u64 h,sc (int i64 i)],D.s (sc (int i64 j))])))):=eJ aU
def sp(x:dR)(p:Int)(up:Bool):Prop×List D:=(aJ x/\1<=p/\p<=70000,dE (fM (bR.lO up (dv x).1 (dv x).2 p).1 (bR.lO up (dv x).1 (dv x).2 p).2) (aL (bR.lO up (dv x).1 (dv x).2 p).1 (bR.lO up (dv x).1 (dv x).2 p).2))
theorem spec:sR E f155 aE gZ (pN .i64) pB sp:=by
 rintro x p up ⟨hx,h1,h2⟩;have he:=hx.2.1;refine(start x.1 x.2.1 x.2.2 p up).trans ?_;simp only[aK];rw[gP trivial,decide_eq_true h1,decide_eq_true h2,bOX,bNW,bF,gP hx,gP ⟨hx.Eb,⟨by omega,by omega⟩,h1,h2⟩];rfl
def aH:dG:=orc3 gZ (pN .i64) pB sp
theorem ok:OK 155 aH:=(eF E aE (aA xO.ok (aA kA.ok (aA bR.ok aD))) func155).Al rfl spec
end Rz
namespace Ir
def E:=mE [(155,Rz.aH)] 11 [8] [] []
def aE:=bd f100
theorem aU:Nk E aE:=nk
theorem start a c d b:aF E f100 aE [D.agg [sc (bool a),ints u64 c,sc (int i64 d)],D.s (sc (int i64 b))]=letI A:=bR.lO false (dv (a,c,d)).fst (dv (a,c,d)).snd b;letI B:=bif fM A.fst A.snd then aL A.fst A.snd else((0:Int),(0:Int));aO (aJ (a,c,d)/\1<=b/\b<=70000) (some [D.agg [sc (bool (isNeg B.fst)),ints u64 (M6.dg B.fst.natAbs),sc (int i64 B.snd)],D.s (sc (int i64 (bif fM A.fst A.snd then(0:Int)else(5:Int))))]):=eJ aU
def sp(x:dR)(p:Int):Prop×List D:=(aJ x/\1<=p/\p<=70000,dE (fM (bR.lO false (dv x).1 (dv x).2 p).1 (bR.lO false (dv x).1 (dv x).2 p).2) (aL (bR.lO false (dv x).1 (dv x).2 p).1 (bR.lO false (dv x).1 (dv x).2 p).2))
theorem spec:fI E f100 aE gZ (pN .i64) sp:=by
 intro x p h;refine(start x.1 x.2.1 x.2.2 p).trans ((gP h).trans ?_);rfl
def aH:dG:=orc2 gZ (pN .i64) sp
theorem ok:OK 100 aH:=(eF E aE (aA Rz.ok aD) func100).lA rfl spec
end Ir
namespace aQJ
def E:=mE [(155,Rz.aH)] 11 [8] [] []
def aE:=bd f101
theorem aU:Nk E aE:=nk
theorem start a c d b:aF E f101 aE [D.agg [sc (bool a),ints u64 c,sc (int i64 d)],D.s (sc (int i64 b))]=letI A:=bR.lO true (dv (a,c,d)).fst (dv (a,c,d)).snd b;letI B:=bif fM A.fst A.snd then aL A.fst A.snd else((0:Int),(0:Int));aO (aJ (a,c,d)/\1<=b/\b<=70000) (some [D.agg [sc (bool (isNeg B.fst)),ints u64 (M6.dg B.fst.natAbs),sc (int i64 B.snd)],D.s (sc (int i64 (bif fM A.fst A.snd then(0:Int)else(5:Int))))]):=eJ aU
def sp(x:dR)(p:Int):Prop×List D:=(aJ x/\1<=p/\p<=70000,dE (fM (bR.lO true (dv x).1 (dv x).2 p).1 (bR.lO true (dv x).1 (dv x).2 p).2) (aL (bR.lO true (dv x).1 (dv x).2 p).1 (bR.lO true (dv x).1 (dv x).2 p).2))
theorem spec:fI E f101 aE gZ (pN .i64) sp:=by
 intro x p h;refine(start x.1 x.2.1 x.2.2 p).trans ((gP h).trans ?_);rfl
def aH:dG:=orc2 gZ (pN .i64) sp
theorem ok:OK 101 aH:=(eF E aE (aA Rz.ok aD) func101).lA rfl spec
end aQJ
namespace bB
def E:=mE [(126,sT.aH),(124,rH.aH),(63,iJ.aH),(100,Ir.aH),(101,aQJ.aH),(113,Jz.aH),(24,aGV.aH)] 71 [] [] []
def aE:=bd f196
theorem aU:Nk E aE:=nk
theorem start a b c d:aF E f196 aE [D.s (ints u64 a),D.s (ints u64 b),D.s (sc (int i64 c)),D.s (sc (int i64 d))]=letI P:=M6.val a+M6.val b;letI N:=aL 1 0;letI O:=M6.dg N.fst.natAbs;letI K:=M6.cF a/\M6.cF b/\a.length<=8192/\b.length<=8192;letI I:=i64.wrap ((0:Int)-c);aO K (aC (M6.dg (M6.val a-M6.val b)) fun e=>letI C:=bif fM (wv (false,e)) I then aL (wv (false,e)) I else((0:Int),(0:Int));aO K (aC (bif cC.kU P then M6.dg P else []) fun f=>letI F:=bif fM (wv (false,f)) I then aL (wv (false,f)) I else((0:Int),(0:Int));aO (jY (false,e)/\(-9223372036854775808:Int)<=i64.wrap ((0:Int)-c)/\i64.wrap ((0:Int)-c)<9223372036854775808) (aC (isNeg C.fst) fun g=>aC (M6.dg C.fst.natAbs) fun h=>aC C.snd fun i=>letI A:=bR.lO false (dv (g,h,i)).fst (dv (g,h,i)).snd d;letI G:=bif fM A.fst A.snd then aL A.fst A.snd else((0:Int),(0:Int));aO (jY (false,f)/\(-9223372036854775808:Int)<=i64.wrap ((0:Int)-c)/\i64.wrap ((0:Int)-c)<9223372036854775808) (aC (isNeg F.fst) fun j=>aC (M6.dg F.fst.natAbs) fun k=>aC F.snd fun l=>letI B:=bR.lO true (dv (j,k,l)).fst (dv (j,k,l)).snd d;letI H:=bif fM B.fst B.snd then aL B.fst B.snd else((0:Int),(0:Int));aO (aJ (g,h,i)/\1<=d/\d<=70000) (aC (isNeg G.fst) fun m=>aC (M6.dg G.fst.natAbs) fun n=>aC G.snd fun o=>aO (aJ (j,k,l)/\1<=d/\d<=70000) (aC (isNeg H.fst) fun p=>aC (M6.dg H.fst.natAbs) fun q=>aC H.snd fun r=>aO ((-9223372036854775808:Int)<=(1:Int)/\(1:Int)<(9223372036854775808:Int)) (aC (isNeg N.fst) fun s=>aC O fun t=>aC N.snd fun u=>aO (aJ (p,q,r)/\aJ (s,t,u)) (aC (lE (bA.lH (dv (p,q,r)) (dv (s,t,u))) (bA.lG (dv (p,q,r)) (dv (s,t,u)))) fun v=>aB (decide (0<v)) (aO ((-9223372036854775808:Int)<=(1:Int)/\(1:Int)<(9223372036854775808:Int)) (aC (isNeg N.fst) fun w=>aC O fun x=>aC N.snd fun y=>some [D.agg [sc (bool m),ints u64 n,sc (int i64 o),sc (bool w),ints u64 x,sc (int i64 y)]])) (some [D.agg [sc (bool m),ints u64 n,sc (int i64 o),sc (bool p),ints u64 q,sc (int i64 r)]]))))))))):=eJ aU
def Ek(a f:Nat)(w:Int):Int×Int:=aL ((a-f:Nat):Int) (-w)
def yU(a f:Nat)(w:Int):Int×Int:=aL ((a+f:Nat):Int) (-w)
def vD(p:Int×Int):Int×Int:=bif decide (0<bZ p (1,0))then(1,0)else p
def sp(a f:List Int)(w q:Int):Prop×List D:=(M6.cF a/\M6.cF f/\bl (M6.val a)<=500000/\bl (M6.val f)<=500000/\(0<=w/\w<=500000)/\(1<=q/\q<=70000)/\nT false (Ek (M6.val a) (M6.val f) w) q=true/\nT true (yU (M6.val a) (M6.val f) w) q=true/\iS (shD true (yU (M6.val a) (M6.val f) w) q),
 [vU (shD false (Ek (M6.val a) (M6.val f) w) q) (vD (shD true (yU (M6.val a) (M6.val f) w) q))])
theorem spec:aGD E f196 aE (pI .u64) (pI .u64) (pN .i64) (pN .i64) sp:=by
 rintro a f w q ⟨ha,hf,ba,bf,⟨w0,w1⟩,⟨q0,q1⟩,i1,i2,pu⟩;refine(start a f w q).trans ?_;have la:a.length<=8192:=by
  have e:M6.dg (M6.val a)=a:=by first |exact ha |exact Eq.symm ha
  rw[<-e];exact eQ (k:=8192) (by omega)
 have lf:f.length<=8192:=by
  have e:M6.dg (M6.val f)=f:=by first |exact hf |exact Eq.symm hf
  rw[<-e];exact eQ (k:=8192) (by omega)
 have vN:∀n:Nat,wv (false,M6.dg n)=(n:Int):=fun n=>by show(M6.val (M6.dg n):Int)=n;rw[M6.bI]
 have wN:∀n:Nat,bl n<=524288->jY (false,M6.dg n):=fun n hn=>by
  have:=mN (z:=(n:Int)) (by rw[bRO];exact hn);rw[jI.2 (by omega),bRO]at this;exact this
 have bs:bl (M6.val a-M6.val f)<=500000:=bMS (gN (bSU _ _)) ba;have bt:bl (M6.val a+M6.val f)<=500001:=by
  have h1:=dU.1 ba;have h2:=dU.1 bf;refine dU.2 ?_;rw[bQV 2 500000];generalize 2^500000=Q at *;omega
 have ok:cC.kU (M6.val a+M6.val f)=true:=decide_eq_true (eQ (k:=8192) (by omega));have ew:i64.wrap (0-w)=-w:=by rw[wrap_i64];omega
 have j1:fM ((M6.val a-M6.val f:Nat):Int) (-w)=true:=fJ (by omega) (by rw[bRO];omega);have j2:fM ((M6.val a+M6.val f:Nat):Int) (-w)=true:=fJ (by omega) (by rw[bRO];omega);have p1:iS (Ek (M6.val a) (M6.val f) w):=eZ j1 (by rw[bRO];omega);have p2:iS (yU (M6.val a) (M6.val f) w):=eZ j2 (by rw[bRO];omega);have c1:=cT (Ek (M6.val a) (M6.val f) w);have c2:=cT (yU (M6.val a) (M6.val f) w);have n1:aL 1 0=(1,0):=by decide +kernel
 have pn:iS (1,0):=⟨by decide +kernel,⟨by decide,by decide⟩,fun h=>absurd h (by decide),fun _=>by decide⟩;have d1:=cK pn;have v1:=cT ((1,0):Int×Int);rw[gP ⟨ha,hf,la,lf⟩,aK,gP ⟨ha,hf,la,lf⟩];simp only[aK,ok,cond_true,vN,ew,j1,j2,n1];rw[gP ⟨wN _ (by omega),by omega,by omega⟩,gP ⟨wN _ (by omega),by omega,by omega⟩];have eL:aL ((M6.val a-M6.val f:Nat):Int) (-w)=Ek (M6.val a) (M6.val f) w:=rfl;have eH:aL ((M6.val a+M6.val f:Nat):Int) (-w)=yU (M6.val a) (M6.val f) w:=rfl;unfold sp vD;dsimp only;rw[eL,eH];generalize Ek (M6.val a) (M6.val f) w=L at *;generalize yU (M6.val a) (M6.val f) w=H at *;have aYJ:fM (bR.lO false L.1 L.2 q).1 (bR.lO false L.1 L.2 q).2=true:=i1;have aYI:fM (bR.lO true H.1 H.2 q).1 (bR.lO true H.1 H.2 q).2=true:=i2;have cu:=cT (shD true H q);have du:=cK pu;have eU:aL (bR.lO true H.1 H.2 q).1 (bR.lO true H.1 H.2 q).2=shD true H q:=rfl;have eD:aL (bR.lO false L.1 L.2 q).1 (bR.lO false L.1 L.2 q).2=shD false L q:=rfl;simp only[c1,c2,aYJ,aYI,cond_true,eU,eD,cu,v1];rw[gP ⟨cK p1,q0,q1⟩,gP ⟨cK p2,q0,q1⟩,gP ⟨by decide,by decide⟩,gP ⟨du,d1⟩];show aB (decide (0<bZ (shD true H q) (1,0))) _ _=_
 by_cases g:0<bZ (shD true H q) (1,0)
 ·rw[aN g,decide_eq_true g,cond_true,gP ⟨by decide,by decide⟩];rfl
 ·rw[aI g,decide_eq_false g,cond_false];rfl
def aH:dG:=orc4 (pI .u64) (pI .u64) (pN .i64) (pN .i64) sp
theorem ok:OK 196 aH:=(eF E aE (aA sT.ok (aA rH.ok (aA iJ.ok (aA Ir.ok (aA aQJ.ok (aA Jz.ok (aA aGV.ok aD))))))) func196).aSB rfl spec
end bB
namespace bD
def E:=mE [(193,Hz.aH),(153,Bo.aH),(63,iJ.aH),(64,aGL.aH),(78,Vh.aH),(24,aGV.aH),(195,aP.aH),(196,bB.aH)] 63 [] [] []
def aE:=bd f152
theorem aU:Nk E aE:=nk
theorem start a c d b:aF E f152 aE [D.agg [sc (bool a),ints u64 c,sc (int i64 d)],D.s (sc (int i64 b))]=letI Q:=wv (isNeg 1,M6.dg (bVY 1));letI N:=i64.wrap (b+32);letI I:=i64.wrap ((0:Int)-b)-3;letI H:=dv (a,c,d);letI G:=aL 1 0;letI T:=isNeg G.fst;letI K:=M6.dg G.fst.natAbs;letI A:=bif fM Q (i64.wrap I)then aL Q (i64.wrap I)else((0:Int),(0:Int));aB ((c.length:Int)==(0:Int)) (aO ((-1000000:Int)<=(1:Int)/\(1:Int)<=(1000000:Int)) (aC T fun e=>aC K fun f=>aC G.snd fun g=>aC T fun h=>aC K fun i=>aC G.snd fun j=>some [D.agg [sc (bool e),ints u64 f,sc (int i64 g),sc (bool h),ints u64 i,sc (int i64 j)]])) (aO (aJ (a,c,d)) (aC (if H.fst=0 then(0:Int)else d+(↑(bl (M6.val c)):Int)-(1:Int)) fun k=>aB (decide (i64.wrap (i64.wrap ((2:Int)*k)+8)<i64.wrap ((0:Int)-b))) (aO ((-9223372036854775808:Int)<=(1:Int)/\(1:Int)<(9223372036854775808:Int)) (aO (jY (isNeg 1,M6.dg 1)/\(-9223372036854775808:Int)<=i64.wrap I/\i64.wrap I<9223372036854775808) (aC (isNeg A.fst) fun l=>aC (M6.dg A.fst.natAbs) fun m=>aC A.snd fun n=>letI U:=dv (l,m,n);aO ((-9223372036854775808:Int)<=(1:Int)/\(1:Int)<(9223372036854775808:Int)) (aC T fun o=>aC K fun p=>aC G.snd fun q=>letI B:=bif bA.gJ (dv (o,p,q)) (-U.fst,U.snd)then bA.jL (dv (o,p,q)) (-U.fst,U.snd)else((0:Int),(0:Int));aO (aJ (o,p,q)/\aJ (l,m,n)) (aC (isNeg B.fst) fun r=>aC (M6.dg B.fst.natAbs) fun s=>aC B.snd fun t=>aO ((-9223372036854775808:Int)<=(1:Int)/\(1:Int)<(9223372036854775808:Int)) (aC T fun u=>aC K fun v=>aC G.snd fun w=>some [D.agg [sc (bool r),ints u64 s,sc (int i64 t),sc (bool u),ints u64 v,sc (int i64 w)]])))))) (aO (aJ (a,c,d)/\(1<=b/\b<=70000)/\((-70000:Int)<=aP.gM H/\aP.gM H<=100)/\aP.bU H b<=(2:Nat)^(aP.w1 H b).toNat) (aC (M6.dg (aP.yQ H b).snd) fun x=>aC (M6.dg ((2:Nat)^((2:Nat)*aP.hv H b+22))) fun y=>aC (aP.w2 H b) fun z=>letI P:=bB.yU (M6.val x) (M6.val y) z;letI O:=bB.Ek (M6.val x) (M6.val y) z;letI F:=M.shD false O N;letI C:=M.shD true P N;letI W:=bB.vD C;aO (M6.cF x/\M6.cF y/\bl (M6.val x)<=500000/\bl (M6.val y)<=500000/\(0<=z/\z<=500000)/\(1<=i64.wrap (b+32)/\i64.wrap (b+32)<=70000)/\nT false O N=true/\nT true P N=true/\iS C) (aC (isNeg F.fst) fun aa=>aC (M6.dg F.fst.natAbs) fun ab=>aC F.snd fun ac=>aC (isNeg W.fst) fun ad=>aC (M6.dg W.fst.natAbs) fun ae=>aC W.snd fun af=>some [D.agg [sc (bool aa),ints u64 ab,sc (int i64 ac),sc (bool ad),ints u64 ae,sc (int i64 af)]]))))):=eJ aU
def rD(x:Int×Int)(p:Int):Int×Int:=if x.1=0 then(1,0)else if 2*aP.gM x+8 < -p then bA.jL (1,0) (-1,-p-3)else shD false (bB.Ek (aP.yQ x p).2 (2^(2*aP.hv x p+22)) (aP.w2 x p)) (p+32)
def qD(x:Int×Int)(p:Int):Int×Int:=if x.1=0 then(1,0)else if 2*aP.gM x+8 < -p then(1,0)else bB.vD (shD true (bB.yU (aP.yQ x p).2 (2^(2*aP.hv x p+22)) (aP.w2 x p)) (p+32))
def Nn(x:Int×Int)(p:Int):Prop:=(-70000<=aP.gM x/\aP.gM x<=100)/\aP.bU x p<=2^(aP.w1 x p).toNat
def aFZ(a f:Nat)(w q:Int):Prop:=bl a<=500000/\bl f<=500000/\(0<=w/\w<=500000)/\nT false (bB.Ek a f w) q=true/\nT true (bB.yU a f w) q=true/\iS (shD true (bB.yU a f w) q)
def Zv(x:dR)(p:Int):Prop:=aJ x/\(1<=p/\p<=67100)/\((dv x).1≠0->-600000<=aP.gM (dv x)/\(2*aP.gM (dv x)+8 < -p->bA.gJ (1,0) (-1,-p-3)=true) /\
 (¬2*aP.gM (dv x)+8 < -p->Nn (dv x) p/\aFZ (aP.yQ (dv x) p).2 (2^(2*aP.hv (dv x) p+22)) (aP.w2 (dv x) p) (p+32)))
def sp(x:dR)(p:Int):Prop×List D:=(Zv x p,
 [vU (rD (dv x) p) (qD (dv x) p)])
theorem spec:fI E f152 aE gZ (pN .i64) sp:=by
 rintro x p ⟨hx,⟨p0,p1⟩,h⟩;refine(start x.1 x.2.1 x.2.2 p).trans ?_;have hz:=M6.cS hx.Iu;have hl:=hx.len;have he:=hx.2.1;have ha:(dv x).1.natAbs=M6.val x.2.1:=iW (x.1,x.2.1);have aSR:(x.1,x.2.1,x.2.2)=x:=rfl;have n1:aL 1 0=(1,0):=by decide +kernel
 have v1:wv (isNeg 1,M6.dg (bVY 1))=1:=rT 1;have hT:(if(dv x).1=0 then 0 else x.2.2+(bl (M6.val x.2.1):Int)-1)=aP.gM (dv x):=by rw[<-ha];rfl
 have k1:jY (isNeg 1,M6.dg 1):=mN (z:=1) (by decide +kernel);have pn:iS (1,0):=⟨by decide +kernel,⟨by decide,by decide⟩,fun h=>absurd h (by decide),fun _=>by decide⟩;unfold sp rD qD;dsimp only
 by_cases c0:(dv x).1=0
 ·rw[cN (by have:=hz.2 (by omega);omega),gP ⟨by decide,by decide⟩,if_pos c0,if_pos c0];simp only[aK,n1];rfl
 ·obtain⟨t0,hA,hB⟩:=h c0;have tt:=hx.qJ.top;have l0:x.2.1.length≠0:=fun hc=>c0 (by have:=hz.1 hc;omega)
  simp only[aSR,hT,aK,n1,v1];rw[bV,if_neg c0,if_neg c0];have tU:aP.gM (dv x)<=1572864:=by unfold aP.gM;rw[if_neg c0];exact tt.2
  have w1:i64.wrap (i64.wrap (2*aP.gM (dv x))+8)=2*aP.gM (dv x)+8:=by rw[wrap_i64 (n:=2*aP.gM (dv x)),wrap_i64]
  have w2:i64.wrap (0-p)=-p:=by rw[wrap_i64];omega
  have w3:i64.wrap (-p-3)=-p-3:=wrap_i64;have w4:i64.wrap (p+32)=p+32:=wrap_i64;simp only[w1,w2,w3,w4];rw[gP hx]
  by_cases c1:2*aP.gM (dv x)+8 < -p
  ·have b1:bl (bVY 1)=1:=rfl;have i1:fM 1 (-p-3)=true:=fJ (by omega) (by rw[b1];omega);have m1:aL 1 (-p-3)=(1,-p-3):=by
    unfold aL;rw[if_neg (by decide),show tz (bVY 1)=0 from by decide +kernel];simp
   have pg:iS (1,-p-3):=m1▸eZ i1 (by decide +kernel);have d1:=cK pn;have d2:=cK pg;have e1:=cT ((1,0):Int×Int);have e2:=cT ((1,-p-3):Int×Int);rw[aN c1,if_pos c1,if_pos c1];simp only[i1,m1,cond_true,e1,e2,hA c1];rw[gP ⟨by decide,by decide⟩,gP ⟨k1,by omega,by omega⟩,gP ⟨by decide,by decide⟩,gP ⟨d1,d2⟩,gP ⟨by decide,by decide⟩];rfl
  ·obtain⟨⟨b1,b2⟩,a1,a2,a3,a4,a5,a6⟩:=hB c1;rw[aI c1,if_neg c1,if_neg c1];simp only[M6.bI];rw[gP ⟨hx,⟨by omega,by omega⟩,b1,b2⟩,gP ⟨M6.aW _,M6.aW _,a1,a2,a3,⟨by omega,by omega⟩,a4,a5,a6⟩];rfl
def aH:dG:=orc2 gZ (pN .i64) sp
theorem ok:OK 152 aH:=(eF E aE (aA Hz.ok (aA Bo.ok (aA iJ.ok (aA aGL.ok (aA Vh.ok (aA aGV.ok (aA aP.ok (aA bB.ok aD)))))))) func152).lA rfl spec
end bD
namespace jM
def E:=mE [(45,pO.aH),(80,aGW.aH)] 27 [] [] []
def aE:=bd f31
theorem aU:Nk E aE:=nk
theorem start a b c d e f:aF E f31 aE [D.agg [sc (bool a),ints u64 b,sc (int i64 c),sc (bool d),ints u64 e,sc (int i64 f)]]=letI B:=dv (a,b,c);letI A:=dv (d,e,f);aO (dP (a,b,c,d,e,f)) (aO (aJ (d,e,f)) (aC (isNeg (-A.fst)) fun g=>aC (M6.dg (-A.fst).natAbs) fun h=>aC A.snd fun i=>aO (aJ (a,b,c)) (aC (isNeg (-B.fst)) fun j=>aC (M6.dg (-B.fst).natAbs) fun k=>aC B.snd fun l=>some [D.agg [sc (bool g),ints u64 h,sc (int i64 i),sc (bool j),ints u64 k,sc (int i64 l)],D.s (sc (int i64 0))]))):=eJ aU
def uS(p:Int×Int):Int×Int:=(-p.1,p.2)
def sp(s:qN):Prop×List D:=(dP s,[vU (uS (dv (fF s))) (uS (dv (fB s))),.s (.sc (.int .i64 0))])
theorem spec:gO E f31 aE qK sp:=by
 intro s h;have h:dP s:=h;have hL:aJ (s.1,s.2.1,s.2.2.1):=h.1;have hH:aJ (s.2.2.2.1,s.2.2.2.2.1,s.2.2.2.2.2):=h.2.1;refine(start s.1 s.2.1 s.2.2.1 s.2.2.2.1 s.2.2.2.2.1 s.2.2.2.2.2).trans ?_;simp only[aK];rw[gP h,gP hH]
 (try simp only[aK])
 rw[gP hL];rfl
def aH:dG:=orc1 qK sp
theorem ok:OK 31 aH:=(eF E aE (aA pO.ok (aA aGW.ok aD)) func31).nN rfl spec
end jM
namespace Da
def E:=mE [(31,jM.aH)] 12 [] [] []
def aE:=bd f194
theorem aU:Nk E aE:=nk
theorem start a c d e f g b:aF E f194 aE [D.agg [sc (bool a),ints u64 c,sc (int i64 d),sc (bool e),ints u64 f,sc (int i64 g)],D.s (sc (bool b))]=letI A:=(a,c,d,e,f,g);letI C:=dv (fB A);letI B:=dv (fF A);aB b (aO (dP A) (some [D.agg [sc (bool (isNeg (-B.fst))),ints u64 (M6.dg (-B.fst).natAbs),sc (int i64 B.snd),sc (bool (isNeg (-C.fst))),ints u64 (M6.dg (-C.fst).natAbs),sc (int i64 C.snd)]])) (some [D.agg [sc (bool a),ints u64 c,sc (int i64 d),sc (bool e),ints u64 f,sc (int i64 g)]]):=eJ aU
def sp(s:qN)(b:Bool):Prop×List D:=(dP s,[vU (bif b then jM.uS (dv (fF s))else dv (fB s)) (bif b then jM.uS (dv (fB s))else dv (fF s))])
theorem spec:fI E f194 aE qK pB sp:=by
 intro s b h;have h:dP s:=id h;refine(start s.1 s.2.1 s.2.2.1 s.2.2.2.1 s.2.2.2.2.1 s.2.2.2.2.2 b).trans ?_;unfold sp;cases b with
 |true =>
  show aO _ _=_;have h':dP (s.1,s.2.1,s.2.2.1,s.2.2.2.1,s.2.2.2.2.1,s.2.2.2.2.2):=h;rw[gP h'];rfl
 |false =>
  dsimp only[cond_false];rw[h.vU]
def aH:dG:=orc2 qK pB sp
theorem ok:OK 194 aH:=(eF E aE (aA jM.ok aD) func194).lA rfl spec
end Da
namespace eK
def E:=mE [(193,Hz.aH),(153,Bo.aH),(101,aQJ.aH),(100,Ir.aH),(63,iJ.aH),(64,aGL.aH),(78,Vh.aH),(194,Da.aH),(195,aP.aH),(196,bB.aH)] 92 [] [] []
def aE:=bd f151
theorem aU:Nk E aE:=nk
theorem start a c d b:aF E f151 aE [D.agg [sc (bool a),ints u64 c,sc (int i64 d)],D.s (sc (int i64 b))]=letI F1:=wv (isNeg 1,M6.dg (bVY 1));letI B1:=aL 0 0;letI I1:=M6.dg B1.fst.natAbs;letI A1:=dv (false,c,d);letI X:=aJ (false,c,d)/\1<=i64.wrap (b+32)/\i64.wrap (b+32)<=70000;letI W:=dv (a,c,d);letI U:=i64.wrap (b+32);letI B:=bR.lO true A1.fst A1.snd U;letI O:=bif fM B.fst B.snd then aL B.fst B.snd else((0:Int),(0:Int));letI A:=bR.lO false A1.fst A1.snd U;letI P:=bif fM A.fst A.snd then aL A.fst A.snd else((0:Int),(0:Int));aB ((c.length:Int)==(0:Int)) (aO ((-1000000:Int)<=(0:Int)/\(0:Int)<=(1000000:Int)) (aC (isNeg B1.fst) fun e=>aC I1 fun f=>aC B1.snd fun g=>aC (isNeg B1.fst) fun h=>aC I1 fun i=>aC B1.snd fun j=>some [D.agg [sc (bool e),ints u64 f,sc (int i64 g),sc (bool h),ints u64 i,sc (int i64 j)]])) (aO (aJ (a,c,d)) (aC (if W.fst=0 then(0:Int)else d+(↑(bl (M6.val c)):Int)-(1:Int)) fun k=>letI Y:=i64.wrap (k-b)-3;letI C:=bif fM F1 (i64.wrap Y)then aL F1 (i64.wrap Y)else((0:Int),(0:Int));aB (decide (i64.wrap (i64.wrap ((2:Int)*k)+8)<i64.wrap ((0:Int)-b))) (aO X (aC (isNeg O.fst) fun l=>aC (M6.dg O.fst.natAbs) fun m=>aC O.snd fun n=>aO X (aC (isNeg P.fst) fun o=>aC (M6.dg P.fst.natAbs) fun p=>aC P.snd fun q=>aO ((-9223372036854775808:Int)<=(1:Int)/\(1:Int)<(9223372036854775808:Int)) (aO (jY (isNeg 1,M6.dg 1)/\(-9223372036854775808:Int)<=i64.wrap Y/\i64.wrap Y<9223372036854775808) (aC (isNeg C.fst) fun r=>aC (M6.dg C.fst.natAbs) fun s=>aC C.snd fun t=>letI G1:=dv (r,s,t);letI F:=bif bA.gJ (dv (o,p,q)) (-G1.fst,G1.snd)then bA.jL (dv (o,p,q)) (-G1.fst,G1.snd)else((0:Int),(0:Int));aO (aJ (o,p,q)/\aJ (r,s,t)) (aC (isNeg F.fst) fun u=>aC (M6.dg F.fst.natAbs) fun v=>aC F.snd fun w=>letI Z:=(u,v,w,l,m,n);letI K:=bif a then jM.uS (dv (fB Z))else dv (fF Z);letI I:=bif a then jM.uS (dv (fF Z))else dv (fB Z);aO (dP Z) (aC (isNeg I.fst) fun x=>aC (M6.dg I.fst.natAbs) fun y=>aC I.snd fun z=>aC (isNeg K.fst) fun aa=>aC (M6.dg K.fst.natAbs) fun ab=>aC K.snd fun ac=>some [D.agg [sc (bool x),ints u64 y,sc (int i64 z),sc (bool aa),ints u64 ab,sc (int i64 ac)]]))))))) (aO (aJ (a,c,d)/\(1<=b/\b<=70000)/\((-70000:Int)<=aP.gM W/\aP.gM W<=100)/\aP.bU W b<=(2:Nat)^(aP.w1 W b).toNat) (aC (M6.dg (aP.yQ W b).fst) fun ad=>letI K1:=M6.val ad;aC (M6.dg ((2:Nat)^((2:Nat)*aP.hv W b+22))) fun ae=>letI N1:=M6.val ae;aC (aP.w2 W b) fun af=>letI D1:=bB.yU K1 N1 af;letI C1:=bB.Ek K1 N1 af;letI N:=M.shD false C1 U;letI G:=M.shD true D1 U;letI H1:=bB.vD G;aO (M6.cF ad/\M6.cF ae/\bl K1<=500000/\bl N1<=500000/\(0<=af/\af<=500000)/\(1<=i64.wrap (b+32)/\i64.wrap (b+32)<=70000)/\nT false C1 U=true/\nT true D1 U=true/\iS G) (aC (isNeg N.fst) fun ag=>aC (M6.dg N.fst.natAbs) fun ah=>aC N.snd fun ai=>aC (isNeg H1.fst) fun aj=>aC (M6.dg H1.fst.natAbs) fun ak=>aC H1.snd fun al=>letI H:=(ag,ah,ai,aj,ak,al);letI T:=bif a then jM.uS (dv (fB H))else dv (fF H);letI Q:=bif a then jM.uS (dv (fF H))else dv (fB H);aO (dP H) (aC (isNeg Q.fst) fun am=>aC (M6.dg Q.fst.natAbs) fun an=>aC Q.snd fun ao=>aC (isNeg T.fst) fun ap=>aC (M6.dg T.fst.natAbs) fun aq=>aC T.snd fun ar=>some [D.agg [sc (bool am),ints u64 an,sc (int i64 ao),sc (bool ap),ints u64 aq,sc (int i64 ar)]])))))):=eJ aU
def qT(x:Int×Int)(p:Int):Int×Int:=if 2*aP.gM x+8 < -p then bA.jL (shD false ((x.1.natAbs:Int),x.2) (p+32)) (-1,aP.gM x-p-3)else shD false (bB.Ek (aP.yQ x p).1 (2^(2*aP.hv x p+22)) (aP.w2 x p)) (p+32)
def pU(x:Int×Int)(p:Int):Int×Int:=if 2*aP.gM x+8 < -p then shD true ((x.1.natAbs:Int),x.2) (p+32)else bB.vD (shD true (bB.yU (aP.yQ x p).1 (2^(2*aP.hv x p+22)) (aP.w2 x p)) (p+32))
def Lu(x:Int×Int)(p:Int):Int×Int:=if x.1=0 then(0,0)else bif isNeg x.1 then jM.uS (pU x p)else qT x p
def Lv(x:Int×Int)(p:Int):Int×Int:=if x.1=0 then(0,0)else bif isNeg x.1 then jM.uS (qT x p)else pU x p
def aIB(x:dR)(p:Int):Prop:=aJ x/\(1<=p/\p<=67100)/\((dv x).1≠0->-600000<=aP.gM (dv x)/\iS (qT (dv x) p)/\iS (pU (dv x) p)/\bZ (qT (dv x) p) (pU (dv x) p)<=0 /\
 (2*aP.gM (dv x)+8 < -p->nT true ((((dv x).1.natAbs:Nat):Int),(dv x).2) (p+32)=true/\nT false ((((dv x).1.natAbs:Nat):Int),(dv x).2) (p+32)=true/\iS (shD false ((((dv x).1.natAbs:Nat):Int),(dv x).2) (p+32))/\bA.gJ (shD false ((((dv x).1.natAbs:Nat):Int),(dv x).2) (p+32)) (-1,aP.gM (dv x)-p-3)=true) /\
 (¬2*aP.gM (dv x)+8 < -p->bD.Nn (dv x) p/\bD.aFZ (aP.yQ (dv x) p).1 (2^(2*aP.hv (dv x) p+22)) (aP.w2 (dv x) p) (p+32)))
def sp(x:dR)(p:Int):Prop×List D:=(aIB x p,
 [vU (Lu (dv x) p) (Lv (dv x) p)])
theorem spec:fI E f151 aE gZ (pN .i64) sp:=by
 rintro x p ⟨hx,⟨p0,p1⟩,h⟩;refine(start x.1 x.2.1 x.2.2 p).trans ?_;have hz:=M6.cS hx.Iu;have he:=hx.2.1;have ha:(dv x).1.natAbs=M6.val x.2.1:=iW (x.1,x.2.1);have aSR:(x.1,x.2.1,x.2.2)=x:=rfl;have n0:aL 0 0=(0,0):=cV 0;have hT:(if(dv x).1=0 then 0 else x.2.2+(bl (M6.val x.2.1):Int)-1)=aP.gM (dv x):=by rw[<-ha];rfl
 have hN:isNeg (dv x).1=x.1:=hx.Eb.cells.1;have v1:wv (isNeg 1,M6.dg (bVY 1))=1:=rT 1;have k1:jY (isNeg 1,M6.dg 1):=mN (z:=1) (by decide +kernel);unfold sp Lu Lv;dsimp only
 by_cases c0:(dv x).1=0
 ·rw[cN (by have:=hz.2 (by omega);omega),gP ⟨by decide,by decide⟩,if_pos c0,if_pos c0];simp only[aK,n0];rfl
 ·obtain⟨t0,q1,q2,q3,hA,hB⟩:=h c0;have tt:=hx.qJ.top;have l0:x.2.1.length≠0:=fun hc=>c0 (by have:=hz.1 hc;omega)
  have tU:aP.gM (dv x)<=1572864:=by unfold aP.gM;rw[if_neg c0];exact tt.2
  simp only[aSR,hT,aK,v1];rw[bV,if_neg c0,if_neg c0];have w1:i64.wrap (i64.wrap (2*aP.gM (dv x))+8)=2*aP.gM (dv x)+8:=by rw[wrap_i64 (n:=2*aP.gM (dv x)),wrap_i64]
  have w2:i64.wrap (0-p)=-p:=by rw[wrap_i64];omega
  have w3:i64.wrap (i64.wrap (aP.gM (dv x)-p)-3)=aP.gM (dv x)-p-3:=by rw[wrap_i64 (n:=aP.gM (dv x)-p),wrap_i64]
  have w4:i64.wrap (p+32)=p+32:=wrap_i64;simp only[w1,w2,w3,w4];rw[gP hx];have sk:dP (mI (qT (dv x) p) (pU (dv x) p)):=uL q1 q2 q3;have eL:=nU (qT (dv x) p) (pU (dv x) p);have eH:=nV (qT (dv x) p) (pU (dv x) p);rw[hN];unfold mI at sk eL eH
  by_cases c1:2*aP.gM (dv x)+8 < -p
  ·obtain⟨s1,s2,s3,s4⟩:=hA c1;have ok:aJ (false,x.2.1,x.2.2):=⟨⟨hx.1.1,fun hf=>(by cases hf),hx.1.len⟩,hx.2⟩;have vx:dv (false,x.2.1,x.2.2)=((((dv x).1.natAbs:Nat):Int),(dv x).2):=by rw[ha];rfl
   have b1:bl (bVY 1)=1:=rfl;have i1:fM 1 (aP.gM (dv x)-p-3)=true:=fJ (by omega) (by rw[b1];omega);have m1:aL 1 (aP.gM (dv x)-p-3)=(1,aP.gM (dv x)-p-3):=by
    unfold aL;rw[if_neg (by decide),show tz (bVY 1)=0 from by decide +kernel];simp
   have pg:iS (1,aP.gM (dv x)-p-3):=m1▸eZ i1 (by decide +kernel);have e2:=cT ((1,aP.gM (dv x)-p-3):Int×Int);have d2:=cK pg;have d3:=cK s3;have e3:=cT (shD false ((((dv x).1.natAbs:Nat):Int),(dv x).2) (p+32));have bGF:fM (bR.lO true (((dv x).1.natAbs:Nat):Int) (dv x).2 (p+32)).1 (bR.lO true (((dv x).1.natAbs:Nat):Int) (dv x).2 (p+32)).2=true:=s1;have bGE:fM (bR.lO false (((dv x).1.natAbs:Nat):Int) (dv x).2 (p+32)).1 (bR.lO false (((dv x).1.natAbs:Nat):Int) (dv x).2 (p+32)).2=true:=s2;have u1:aL (bR.lO true (((dv x).1.natAbs:Nat):Int) (dv x).2 (p+32)).1 (bR.lO true (((dv x).1.natAbs:Nat):Int) (dv x).2 (p+32)).2=shD true ((((dv x).1.natAbs:Nat):Int),(dv x).2) (p+32):=rfl;have u2:aL (bR.lO false (((dv x).1.natAbs:Nat):Int) (dv x).2 (p+32)).1 (bR.lO false (((dv x).1.natAbs:Nat):Int) (dv x).2 (p+32)).2=shD false ((((dv x).1.natAbs:Nat):Int),(dv x).2) (p+32):=rfl;have dL:qT (dv x) p=bA.jL (shD false ((((dv x).1.natAbs:Nat):Int),(dv x).2) (p+32)) (-1,aP.gM (dv x)-p-3):=if_pos c1;have dH:pU (dv x) p=shD true ((((dv x).1.natAbs:Nat):Int),(dv x).2) (p+32):=if_pos c1;rw[aN c1];simp only[vx,bGF,bGE,u1,u2,i1,m1,cond_true,e2,e3,s4];rw[gP ⟨ok,by omega,by omega⟩,gP ⟨ok,by omega,by omega⟩,gP ⟨by decide,by decide⟩,gP ⟨k1,by omega,by omega⟩,gP ⟨d3,d2⟩,<-dL,<-dH,gP sk,eL,eH];rfl
  ·obtain⟨⟨b1,b2⟩,a1,a2,a3,a4,a5,a6⟩:=hB c1;have dL:qT (dv x) p=shD false (bB.Ek (aP.yQ (dv x) p).1 (2^(2*aP.hv (dv x) p+22)) (aP.w2 (dv x) p)) (p+32):=if_neg c1;have dH:pU (dv x) p=bB.vD (shD true (bB.yU (aP.yQ (dv x) p).1 (2^(2*aP.hv (dv x) p+22)) (aP.w2 (dv x) p)) (p+32)):=if_neg c1;rw[aI c1];simp only[M6.bI];rw[gP ⟨hx,⟨by omega,by omega⟩,b1,b2⟩,gP ⟨M6.aW _,M6.aW _,a1,a2,a3,⟨by omega,by omega⟩,a4,a5,a6⟩,<-dL,<-dH,gP sk,eL,eH];rfl
def aH:dG:=orc2 gZ (pN .i64) sp
theorem ok:OK 151 aH:=(eF E aE (aA Hz.ok (aA Bo.ok (aA aQJ.ok (aA Ir.ok (aA iJ.ok (aA aGL.ok (aA Vh.ok (aA Da.ok (aA aP.ok (aA bB.ok aD)))))))))) func151).lA rfl spec
end eK
end W
namespace R
def bCH(x:Rat):Prop:=∃m e:Int,0<m/\m<9007199254740992/\-53<=e/\e<=971/\(x=(m:Rat)*pz e\/x=-((m:Rat)*pz e))
def aVS(x:Rat)(k:Int):Prop:=ab (x-(k:Rat)*(pi/2))<=pi/4+1/36893488147419103232
def Fit(x:Rat):Prop:=bCH x\/ab x<=3/4
theorem aFJ(r:Rat):cs (ab r)=cs r:=by
 unfold ab;split
 ·rfl
 ·rw[Ug]
theorem aMZ{r:Rat}(h:ab r<=1):sn (ab r)=ab (sn r):=by
 by_cases h0:0<=r
 ·rw[bN h0]at *;rw[bN (Fz h0 h)]
 ·have e:ab r=-r:=by unfold ab;rw[if_neg h0]
  rw[e]at h;rw[e,<-gT (sn r),<-Bt,bN (Fz (by grind) h)]
theorem Xs{r:Rat}(h:ab r<=4/5):17/25<=cs r/\cs r<=1:=by
 have h0:=aQ r;obtain⟨c1,c2⟩:=Qw h0 (by grind);have m:=cX h0 h h0 h;have m2:=aG h0 h0;have m3:=aG m2 (show 0<=6-ab r*ab r by grind);rw[aFJ]at c1 c2;generalize ab r=a at *;constructor <;> grind
theorem aBW{r:Rat}(h0:0<=r)(h:r<=4/5):4/5*r<=sn r/\sn r<=r:=by
 have h1:r<=1:=by grind
 refine⟨?_,Vy h0 h1⟩;have c1:=(Ae h0 h1).1;have m:=cX h0 h h0 h;have m3:=aG h0 (show 0<=16/25-r*r by grind);grind
theorem aLD{a b:Int}(h:a<b):pz a<pz b:=by
 have h1:=dM (show a+1<=b by omega);have h2:=dS a;rw[jG]at h1;grind
theorem Yj{a b:Int}:pz a<=pz b↔a<=b:=by
 constructor
 ·intro h;refine Int.not_lt.1 fun hn=>?_
  have:=aLD hn;grind
 ·exact dM
theorem xT{a b:Int}:pz a<pz b↔a<b:=by
 constructor
 ·intro h;refine Int.not_le.1 fun hn=>?_
  have:=dM hn;grind
 ·exact aLD
theorem aCJ:pz 1=2:=by rw[show(1:Int)=0+1 by rfl,jG,fC];grind
theorem uN(a:Int):pz (a-1)*2=pz a:=by
 have:=jG (a-1);rw[show a-1+1=a by omega]at this;grind
theorem fZ(a:Int){n:Nat}{c:Rat}(hc:((2^n:Nat):Rat)=c):pz (a-(n:Int))*c=pz a:=by
 have:=dT (a-(n:Int)) n;rw[show a-(n:Int)+(n:Int)=a by omega,hc]at this;exact this.symm
end R
namespace R
open W.TSums
theorem Fv{f:Nat->Rat}:∀{n:Nat},(∀k,k<n->f k=0)->sum f n=0
 |0,_=>rfl
 |n+1,h=>by rw[dA,Fv fun k hk=>h k (by omega),h n (by omega)];grind
theorem Kc(g:Nat->Rat)(k f:Nat):sum (fun i=>g (k+i)) (f+1)=g k+sum (fun i=>g (k+1+i)) f:=by
 rw[bRX f 1,iZ];have e:(fun i=>g (k+(1+i)))=fun i=>g (k+1+i):=funext fun i=>by rw[Nat.add_assoc]
 rw[e,dA];have z:sum (fun i=>g (k+i)) 0=0:=rfl;rw[z,bMX];grind
def gC(u W i:Nat):Rat:=cc i*(sq u W i:Rat)
def gS(u W i:Nat):Rat:=ss i*(sq u W i:Rat)
theorem Ab{u W:Nat}(hu:u<=W):∀f k a b c d,c<=a->d<=b->(k%4=1\/k%4=2->c+sq u W k<=a)->(k%4=2\/k%4=3->d+sq u W k<=b) ->
  (tay u W f k a b c d).2.2.1<=(tay u W f k a b c d).1/\(tay u W f k a b c d).2.2.2<=(tay u W f k a b c d).2.1 /\
  ((tay u W f k a b c d).1:Rat)-((tay u W f k a b c d).2.2.1:Rat)=(a:Rat)-(c:Rat)+sum (fun i=>gC u W (k+i)) f /\
  ((tay u W f k a b c d).2.1:Rat)-((tay u W f k a b c d).2.2.2:Rat)=(b:Rat)-(d:Rat)+sum (fun i=>gS u W (k+i)) f
 |0,k,a,b,c,d,h1,h2,_,_=>by
  have z1:sum (fun i=>gC u W (k+i)) 0=0:=rfl;have z2:sum (fun i=>gS u W (k+i)) 0=0:=rfl;refine⟨h1,h2,?_,?_⟩
  ·show(a:Rat)-(c:Rat)=_;rw[z1];grind
  ·show(b:Rat)-(d:Rat)=_;rw[z2];grind
 |f+1,k,a,b,c,d,h1,h2,h3,h4=>by
  have hs:=Fw hu k;have hm:k%4<4:=bOE _ (by decide);unfold tay
  by_cases hz:sq u W k=0
  ·have za:=Pd hz;rw[if_pos hz];have z1:sum (fun i=>gC u W (k+i)) (f+1)=0:=Fv fun i _=>by unfold gC;rw[za];simp
   have z2:sum (fun i=>gS u W (k+i)) (f+1)=0:=Fv fun i _=>by unfold gS;rw[za];simp
   rw[z1,z2];refine⟨h1,h2,?_,?_⟩
   ·show(a:Rat)-(c:Rat)=_;grind
   ·show(b:Rat)-(d:Rat)=_;grind
  ·rw[if_neg hz,Kc (gC u W) k f,Kc (gS u W) k f];have e4:(k+1)%4=(k%4+1)%4:=by omega
   by_cases c0:k%4=0
   ·rw[if_pos c0];obtain⟨r1,r2,r3,r4⟩:=Ab hu f (k+1) (a+sq u W k) b c d (by omega) h2 (fun _=>by omega) (fun h=>by omega);refine⟨r1,r2,?_,?_⟩
    ·rw[r3,bWI];have:gC u W k=(sq u W k:Rat):=by unfold gC cc;rw[if_pos c0];grind
     rw[this];grind
    ·rw[r4];have:gS u W k=0:=by unfold gS ss;rw[aX,aX];grind
     rw[this];grind
   ·rw[if_neg c0]
    by_cases c1:k%4=1
    ·rw[if_pos c1];obtain⟨r1,r2,r3,r4⟩:=Ab hu f (k+1) a (b+sq u W k) c d h1 (by omega) (fun _=>by have:=h3 (Or.inl c1);omega) (fun _=>by omega);refine⟨r1,r2,?_,?_⟩
     ·rw[r3];have:gC u W k=0:=by unfold gC cc;rw[if_neg c0,aX];grind
      rw[this];grind
     ·rw[r4,bWI];have:gS u W k=(sq u W k:Rat):=by unfold gS ss;rw[if_pos c1];grind
      rw[this];grind
    ·rw[if_neg c1]
     by_cases c2:k%4=2
     ·rw[if_pos c2];have g1:=h3 (Or.inr c2);have g2:=h4 (Or.inl c2);obtain⟨r1,r2,r3,r4⟩:=Ab hu f (k+1) a b (c+sq u W k) d (by omega) h2 (fun h=>by omega) (fun _=>by omega);refine⟨r1,r2,?_,?_⟩
      ·rw[r3,bWI];have:gC u W k=-(sq u W k:Rat):=by unfold gC cc;rw[if_neg c0,if_pos c2];grind
       rw[this];grind
      ·rw[r4];have:gS u W k=0:=by unfold gS ss;rw[if_neg c1,aX];grind
       rw[this];grind
     ·rw[if_neg c2];have g2:=h4 (Or.inr (by omega));obtain⟨r1,r2,r3,r4⟩:=Ab hu f (k+1) a b c (d+sq u W k) h1 (by omega) (fun h=>by omega) (fun h=>by omega);refine⟨r1,r2,?_,?_⟩
      ·rw[r3];have:gC u W k=0:=by unfold gC cc;rw[if_neg c0,if_neg c2];grind
       rw[this];grind
      ·rw[r4,bWI];have:gS u W k=-(sq u W k:Rat):=by unfold gS ss;rw[if_neg c1,aT];grind
       rw[this];grind
theorem Cs{x y:Nat}(h:y<=x):((x-y:Nat):Rat)=(x:Rat)-(y:Rat):=by
 have:((x-y:Nat):Rat)+(y:Rat)=(x:Rat):=by exact_mod_cast(show x-y+y=x by omega)
 grind
theorem aBR{u w:Nat}(hu:u<=2^w):(So u w:Rat)=sum (fun k=>ss k*(sq u (2^w) k:Rat)) (w+1)/\(Sp u w:Rat)=sum (fun k=>cc k*(sq u (2^w) k:Rat)) (w+1):=by
 obtain⟨r1,r2,r3,r4⟩:=Ab hu (w+1) 0 0 0 0 0 (bLW _) (bLW _) (fun h=>by omega) (fun h=>by omega);unfold So Sp;rw[Cs r1,Cs r2,r3,r4];have z:((0:Nat):Rat)=0:=by norm_cast
 have e1:sum (fun i=>gC u (2^w) (0+i)) (w+1)=sum (fun k=>cc k*(sq u (2^w) k:Rat)) (w+1):=iL fun k _=>by rw[bLY];rfl
 have e2:sum (fun i=>gS u (2^w) (0+i)) (w+1)=sum (fun k=>ss k*(sq u (2^w) k:Rat)) (w+1):=iL fun k _=>by rw[bLY];rfl
 rw[e1,e2,z];constructor <;> grind
end R
namespace M
open Go AI W
theorem Ro(p:Int×Int):R.ab (R.qz p)=(p.1.natAbs:Rat)*R.pz p.2:=by
 unfold R.qz;rw[R.fS,R.bN (bRD (R.dS p.2))];congr 1;unfold R.ab
 by_cases hz:0<=p.1
 ·rw[if_pos (by exact_mod_cast hz),<-bWO];congr 1;omega
 ·rw[if_neg (by intro hc;exact hz (by exact_mod_cast hc)),<-bWO,<-bWX];congr 1;omega
theorem Qe(w:Int)(hw:65<=w):∀f h:Nat,4<=h->(h=4\/16*(h:Int)-16<w)->THalvings.hlv w f h=4\/16*(THalvings.hlv w f h:Int)-16<w
 |0,h,_,hh=>hh
 |f+1,h,h4,hh=>by
  unfold THalvings.hlv;split
  ·rename_i hc;refine Qe w hw f (h+1) (by omega) (Or.inr ?_);have:4*(h:Int)*h>=4*4*h:=by
    have:=Int.mul_le_mul_of_nonneg_right (show(4*4:Int)<=4*h by omega) (show(0:Int)<=h by omega);omega
   omega
  ·exact hh
theorem Ba{x:Int×Int}{p:Int}(h0:x.1≠0)(h1:bC x<=0)(ht:-1200<=bC x)(hp:1<=p/\p<=67100) :
  aP.gM x=bC x/\aP.w0 x p=p+80-bC x/\4<=aP.hv x p/\aP.hv x p<=204/\(aP.hv x p:Int)+50<=p+80-bC x/\aP.w1 x p=p+80-bC x+2*(aP.hv x p:Nat)/\aP.w2 x p=p+80-bC x+3*(aP.hv x p:Nat):=by
 have e1:aP.gM x=bC x:=by unfold aP.gM bC;rw[if_neg h0]
 have e2:aP.w0 x p=p+80-bC x:=by
  unfold aP.w0;rw[e1];split <;> omega
 obtain⟨h3,h4⟩:=aP.Tq (aP.w0 x p) 200 4;have h5:=Qe (aP.w0 x p) (by omega) 200 4 (by omega) (Or.inl rfl);have eh:THalvings.hlv (aP.w0 x p) 200 4=aP.hv x p:=rfl;rw[eh]at h3 h4 h5;refine⟨e1,e2,h4,h3,?_,?_,?_⟩
 ·omega
 ·unfold aP.w1;omega
 ·unfold aP.w2 aP.w1;omega
theorem aJK(x:Int×Int)(n:Int):(sL.aHK x n:Rat)<=R.pz n*R.ab (R.qz x)/\R.pz n*R.ab (R.qz x)<(sL.aHK x n:Rat)+1:=by
 rw[Ro];have e:R.pz n*((x.1.natAbs:Rat)*R.pz x.2)=(x.1.natAbs:Rat)*R.pz (x.2+n):=by rw[R.mD];grind
 rw[e];unfold sL.aHK;split
 ·rename_i h;obtain⟨k,hk⟩:=bQY h;rw[hk,R.oF,bPS,bSW];constructor <;> grind
 ·rename_i h;obtain⟨k,hk⟩:=bQY (show 0<=-(x.2+n) by omega);have hp:0<2^k:=bOV (by decide);obtain⟨d1,d2⟩:=R.uT x.1.natAbs hp;rw[hk,bPS,show x.2+n=-(k:Int) by omega,R.zC];have h2:=R.Tu k;have h3:=R.wV k;have m1:=R.aG (bRD h3) (show 0<=(x.1.natAbs:Rat)-((2^k:Nat):Rat)*((x.1.natAbs/2^k:Nat):Rat) by grind);have m2:=bRP h3 (show 0<((2^k:Nat):Rat)*((x.1.natAbs/2^k:Nat):Rat)+((2^k:Nat):Rat)-(x.1.natAbs:Rat) by grind);generalize ((x.1.natAbs/2^k:Nat):Rat)=q at *;generalize ((2^k:Nat):Rat)=K at *;generalize (x.1.natAbs:Rat)=m at *;generalize R.hf k=g at *;have e1:g*(K*q)=q:=by rw[<-bXG,h2];grind
  constructor <;> grind
theorem Rc{x:Int×Int}{p:Int}(h0:x.1≠0)(hT:R.ab (R.qz x)<=1)(h1:bC x<=0)(ht:-1200<=bC x)(hp:1<=p/\p<=67100) :
  aP.bU x p<=2^(aP.w1 x p).toNat /\
  R.ab (((aP.yQ x p).1:Rat)-R.pz (aP.w2 x p)*R.sn (R.ab (R.qz x)))<=R.pz (2*(aP.hv x p:Nat)+18) /\
  R.ab (((aP.yQ x p).2:Rat)-R.pz (aP.w2 x p)*R.cs (R.ab (R.qz x)))<=R.pz (2*(aP.hv x p:Nat)+18):=by
 obtain⟨e1,e2,h4,h5,h6,bBR,bBQ⟩:=Ba h0 h1 ht hp;obtain⟨u1,u2⟩:=aJK x (aP.w1 x p);have hT0:=R.aQ (R.qz x);unfold aP.yQ;have eU:sL.aHK x (aP.w1 x p)=aP.bU x p:=rfl;rw[eU]at u1 u2;generalize aP.bU x p=u at *;generalize aP.hv x p=h at *;generalize R.ab (R.qz x)=T at *;obtain⟨n,hn⟩:=bQY (show 0<=aP.w1 x p by omega);have aTQ:aP.w2 x p=((n+h:Nat):Int):=by omega
 rw[hn,R.oF]at u1 u2;rw[hn,aTQ,R.oF,bPS,bPS];have hu:u<=2^n:=by
  have hW:(0:Rat)<=((2^n:Nat):Rat):=by exact_mod_cast bRZ _
  have:=R.aG hW (show 0<=1-T by grind);have:(u:Rat)<=((2^n:Nat):Rat):=by grind
  exact_mod_cast this
 have Mq:u<=2^(n+h):=bMS hu (bOW (by decide) (by omega));obtain⟨s1,s2⟩:=R.aBR Mq;have r:=R.aKA hT0 hT u1 u2 (h:=h) (by omega) (by omega) (by omega) s1 s2;have b:((4^h*(2*(n+h)+10):Nat):Rat)<=R.pz (2*(h:Nat)+18):=by
  rw[show 2*(h:Int)+18=((2*h+18:Nat):Int) by omega,R.oF];have:4^h*(2*(n+h)+10)<=2^(2*h+18):=by
   rw[bQX,<-R.Hj];exact bOK _ (by have:(2:Nat)^18=262144:=rfl;omega)
  exact_mod_cast this
 exact⟨hu,bRB r.1 b,bRB r.2 b⟩
end M
namespace M
open Go AI W
theorem wI(up:Bool)(p:Int×Int)(n:Nat):bl (shD up p n).1.natAbs<=n+1:=by
 unfold shD bR.lO;refine bMS (oT _ _) ?_;split
 ·dsimp only;omega
 ·rename_i h;dsimp only;exact Ue up p.1 _ n (by omega)
theorem Bq{p:Int×Int}{E:Int}(h0:p.1≠0)(h:R.ab (R.qz p)<R.pz E):bC p<E:=by
 have:=(rU h0).1;refine R.xT.1 ?_;grind
theorem Fs{p:Int×Int}{E:Int}(h0:p.1≠0)(h:R.pz E<=R.ab (R.qz p)):E<=bC p:=by
 have:=(rU h0).2;have:R.pz E<R.pz (bC p+1):=by grind
 have:=R.xT.1 this;omega
theorem xR{p:Int×Int}{E:Int}(h0:p.1≠0)(h:R.ab (R.qz p)<=R.pz E):bC p<=E:=by
 have:=(rU h0).1;refine R.Yj.1 ?_;grind
theorem aLB{p:Int×Int}(h:p.1≠0):R.qz p≠0:=by
 intro hz;have h1:=(rU h).1;have h2:=R.dS (bC p);rw[hz,R.bN (by grind)]at h1;grind
theorem Kl{p:Int×Int}(h:R.qz p≠0):p.1≠0:=fun hz=>h (R.nA hz)
theorem zB{p:Int×Int}:0<R.qz p↔0<p.1:=by
 have h:=R.dS p.2;unfold R.qz;constructor
 ·intro hp;refine Int.not_le.1 fun hn=>?_
  have c:(p.1:Rat)<=0:=by exact_mod_cast hn
  have:=R.aG (show 0<=-(p.1:Rat) by grind) (bRD h);grind
 ·intro hp;have c:(0:Rat)<(p.1:Rat):=by exact_mod_cast hp
  exact bRP c h
theorem Ge{p:Int×Int}:R.qz p<0↔p.1<0:=by
 have h:=zB (p:=(-p.1,p.2));rw[rY]at h;constructor
 ·intro hp;have:=h.1 (by grind);dsimp only at this;omega
 ·intro hp;have:=h.2 (by dsimp only;omega);grind
theorem Ut{p q:Int×Int}{E:Int}{n:Nat}(hp:iS p)(hq:iS q)(h1:E<=p.2)(h2:E<=q.2)(v1:R.ab (R.qz p)<=R.pz (E+n))(v2:R.ab (R.qz q)<=R.pz (E+n))(hn:n<=500000)(hE:-1048576<=E)(aUY:E+n<=1048000):bA.gJ p q=true:=by
 unfold bA.gJ
 by_cases z1:p.1=0
 ·rw[decide_eq_true z1,bRG]
 by_cases z2:q.1=0
 ·rw[decide_eq_true z2,bRG,bRV]
 rw[decide_eq_false z1,decide_eq_false z2,bNX,bNX];obtain⟨m1,m2⟩:=Fk p q;have hm:E<=bA.fH p q:=by unfold bA.fH;split <;> omega
 have bEF:bA.fH p q<=1048576/\-1048576<=bA.fH p q:=by have:=hp.2.1;have:=hq.2.1;unfold bA.fH;split <;> omega
 have qX:R.qz (bA.lH p q,bA.fH p q)=R.qz p:=by
  unfold bA.lH R.qz;dsimp only;have e1:R.pz p.2=R.pz (bA.fH p q)*((2^(p.2-bA.fH p q).toNat:Nat):Rat):=by rw[<-R.dT];congr 1;omega
  rw[e1,bWR,bWO];grind
 have qY:R.qz (bA.lG p q,bA.fH p q)=R.qz q:=by
  unfold bA.lG R.qz;dsimp only;have e1:R.pz q.2=R.pz (bA.fH p q)*((2^(q.2-bA.fH p q).toNat:Nat):Rat):=by rw[<-R.dT];congr 1;omega
  rw[e1,bWR,bWO];grind
 have qS:R.qz (bA.lH p q+bA.lG p q,bA.fH p q)=R.qz p+R.qz q:=by
  rw[<-qX,<-qY];unfold R.qz;dsimp only;rw[bXT];grind
 have vS:R.ab (R.qz (bA.lH p q+bA.lG p q,bA.fH p q))<=R.pz (E+n+1):=by
  rw[qS,R.jG];have:=R.Hx (R.qz p) (R.qz q);grind
 rw[<-qX]at v1;rw[<-qY]at v2;generalize bA.lH p q=X at *;generalize bA.lG p q=Y at *;generalize bA.fH p q=m at *;have bits:∀(z:Int) (F:Int),R.ab (R.qz (z,m))<=R.pz F->bl z.natAbs=0\/m+(bl z.natAbs:Nat)<=F+1:=by
  intro z F hv
  by_cases hz:z=0
  ·left;rw[hz];rfl
  ·right;have:=xR (p:=(z,m)) hz hv;unfold bC at this;dsimp only at this;omega
 have b1:=bits X _ v1;have b2:=bits Y _ v2;have b3:=bits (X+Y) _ vS;have f:∀z:Int,bl z.natAbs<=524288->fit z.natAbs=true:=fun z h=>decide_eq_true h
 rw[f X (by omega),f Y (by omega),f (X+Y) (by omega),fJ (by omega) (by omega)];rfl
theorem uQ{p:Int×Int}(h:iS p):iS ((p.1.natAbs:Int),p.2):=by
 obtain⟨h1,h2,h3,h4⟩:=h;exact⟨by dsimp only;rw[bRO];exact h1,h2,fun hz=>h3 (by dsimp only at hz;omega),fun hz=>by dsimp only at hz ⊢;have:=h4 (by omega);omega⟩
theorem Gg(p:Int×Int):R.qz ((p.1.natAbs:Int),p.2)=R.ab (R.qz p):=by
 rw[Ro];unfold R.qz;dsimp only;rw[bWO]
theorem aHU(p:Int×Int):bC ((p.1.natAbs:Int),p.2)=bC p:=by
 unfold bC;dsimp only;rw[bRO]
theorem oD:R.qz (1,0)=1:=by
 unfold R.qz;dsimp only;rw[R.fC];have:((1:Int):Rat)=1:=by norm_cast
 rw[this];grind
theorem xU:iS (1,0):=⟨by decide +kernel,⟨by decide,by decide⟩,fun h=>absurd h (by decide),fun _=>by decide⟩
theorem aEU{a f:Nat}{w q:Int}{V E:Rat}(hq:1<=q)(hE:R.ab ((a:Rat)-R.pz w*V)<=E)(hf:E<=(f:Rat))(hfa:(f:Rat)+E<=R.pz w*V)(hV:0<=V) :
  f<=a/\R.qz (shD false (bB.Ek a f w) q)<=V-R.pz (-w)*f+R.pz (-w)*E/\V-R.pz (-w)*f-R.pz (-w)*E-R.pz (1-q)*V<=R.qz (shD false (bB.Ek a f w) q) /\
  V+R.pz (-w)*f-R.pz (-w)*E<=R.qz (shD true (bB.yU a f w) q)/\R.qz (shD true (bB.yU a f w) q)<=V+R.pz (-w)*f+R.pz (-w)*E+R.pz (1-q)*(2*V):=by
 rw[R.dY]at hE;have aUL:f<=a:=by
  have:(f:Rat)<=(a:Rat):=by grind
  exact_mod_cast this
 refine⟨aUL,?_⟩;have g:=R.dS (-w);have gi:=R.Tc w;have n1:=(Bv false (bB.Ek a f w) hq).1 rfl;have n2:=(Bv true (bB.yU a f w) hq).2 rfl;have q1:R.qz (bB.Ek a f w)=((a:Rat)-(f:Rat))*R.pz (-w):=by
  unfold bB.Ek;rw[mB,bWO,R.Cs aUL]
 have q2:R.qz (bB.yU a f w)=((a:Rat)+(f:Rat))*R.pz (-w):=by
  unfold bB.yU;rw[mB,bWO,bWI]
 rw[q1]at n1;rw[q2]at n2;have a0:(0:Rat)<=(a:Rat)-(f:Rat):=by grind
 have f0:(0:Rat)<=(f:Rat):=by exact_mod_cast bRZ f
 rw[R.bN (R.aG a0 (bRD g))]at n1;rw[R.bN (R.aG (show(0:Rat)<=(a:Rat)+(f:Rat) by grind) (bRD g))]at n2;have eV:R.pz (-w)*(R.pz w*V)=V:=by rw[<-bXG,bYQ (R.pz (-w)),gi];grind
 have m1:=R.aG (bRD g) (show 0<=E-((a:Rat)-R.pz w*V) by grind);have m2:=R.aG (bRD g) (show 0<=E+((a:Rat)-R.pz w*V) by grind);have m3:=R.aG (bRD g) (show 0<=R.pz w*V-((f:Rat)+E) by grind);have m4:=R.aG (bRD g) (show 0<=(f:Rat)-E by grind);have e0:R.pz w*V=R.pz w*V:=rfl;generalize R.pz w*V=U at *;generalize R.pz (-w)=G at *;have h0:=R.dS (1-q);generalize R.pz (1-q)=H at *;have k1:=R.aG (bRD h0) (show 0<=V-((a:Rat)-(f:Rat))*G by grind);have k2:=R.aG (bRD h0) (show 0<=2*V-((a:Rat)+(f:Rat))*G by grind);refine⟨?_,?_,?_,?_⟩ <;> grind
theorem Xw(p:Int×Int):R.qz (bB.vD p)<=1/\R.qz (bB.vD p)<=R.qz p/\(R.qz (bB.vD p)=R.qz p\/R.qz (bB.vD p)=1)/\(∀v,v<=R.qz p->v<=1->v<=R.qz (bB.vD p)):=by
 unfold bB.vD
 by_cases h:0<bZ p (1,0)
 ·rw[decide_eq_true h,cond_true,oD];have:=nD.1 h;rw[oD]at this;exact⟨bSK,bRD this,Or.inr rfl,fun v _ h=>h⟩
 ·rw[decide_eq_false h,cond_false];have:R.qz p<=1:=by rw[<-oD];exact Rat.not_lt.1 fun hn=>h (nD.2 hn)
  exact⟨this,bSK,Or.inl rfl,fun v h _=>h⟩
theorem Wl{p:Int×Int}(h:iS p):iS (bB.vD p):=by
 unfold bB.vD;cases decide (0<bZ p (1,0))
 ·exact h
 ·exact xU
theorem aFR{p:Int×Int}{n:Nat}(hn:1<=n)(h:bl p.1.natAbs<=n):bl (bB.vD p).1.natAbs<=n:=by
 unfold bB.vD;cases decide (0<bZ p (1,0))
 ·exact h
 ·exact hn
theorem aVN{x:Int×Int}{p:Int}{V:Rat}{a:Nat}(h0:x.1≠0)(h1:bC x<=0)(ht:-1200<=bC x)(hp:1<=p/\p<=67100)(hV:R.pz (bC x-1)<=V)(bEW:V<=1)
  (ha:R.ab ((a:Rat)-R.pz (aP.w2 x p)*V)<=R.pz (2*(aP.hv x p:Nat)+18)) :
  bD.aFZ a (2^(2*aP.hv x p+22)) (aP.w2 x p) (p+32) /\
  iS (shD false (bB.Ek a (2^(2*aP.hv x p+22)) (aP.w2 x p)) (p+32)) /\
  R.qz (shD false (bB.Ek a (2^(2*aP.hv x p+22)) (aP.w2 x p)) (p+32))<=V-R.pz (bC x-p-270) /\
  V-R.pz (bC x-p-61)-R.pz (-p-31)*V<=R.qz (shD false (bB.Ek a (2^(2*aP.hv x p+22)) (aP.w2 x p)) (p+32)) /\
  V+R.pz (bC x-p-270)<=R.qz (shD true (bB.yU a (2^(2*aP.hv x p+22)) (aP.w2 x p)) (p+32)) /\
  R.qz (shD true (bB.yU a (2^(2*aP.hv x p+22)) (aP.w2 x p)) (p+32))<=V+R.pz (bC x-p-61)+R.pz (-p-31)*(2*V):=by
 obtain⟨e1,e2,h4,h5,h6,bBR,bBQ⟩:=Ba h0 h1 ht hp;generalize aP.hv x p=h at *;generalize aP.w2 x p=w at *;have tp:=R.dS (bC x-1);have V0:0<=V:=by grind
 have fE:((2^(2*h+22):Nat):Rat)=R.pz (2*(h:Nat)+22):=by rw[show 2*(h:Int)+22=((2*h+22:Nat):Int) by omega,R.oF]
 have l1:R.pz (2*(h:Nat)+18)<=R.pz (2*(h:Nat)+22):=R.dM (by omega);have l2:R.pz (2*(h:Nat)+22)+R.pz (2*(h:Nat)+18)<=R.pz w*V:=by
  have b1:R.pz (2*(h:Nat)+23)<=R.pz w*R.pz (bC x-1):=by rw[<-R.mD];exact R.dM (by omega)
  have b2:R.pz (2*(h:Nat)+23)=2*R.pz (2*(h:Nat)+22):=by rw[<-R.jG];congr 1
  have b3:=R.aG (bRD (R.dS w)) (show 0<=V-R.pz (bC x-1) by grind);grind
 have r:=aEU (a:=a) (f:=2^(2*h+22)) (w:=w) (q:=p+32) (V:=V) (E:=R.pz (2*(h:Nat)+18)) (by omega) ha (by rw[fE];exact l1) (by rw[fE];exact l2) V0;obtain⟨r0,r1,r2,r3,r4⟩:=r;rw[fE,<-R.mD,<-R.mD]at r1 r2 r3 r4;rw[show(1:Int)-(p+32)=-p-31 by omega]at r2 r4;have d1:R.pz (-w+(2*(h:Nat)+18))=R.pz (-w+(2*(h:Nat)+22))/16:=by
  have:=R.fZ (-w+(2*(h:Nat)+22)) (n:=4) (c:=16) (by norm_cast);rw[show -w+(2*(h:Int)+22)-((4:Nat):Int)=-w+(2*(h:Nat)+18) by omega]at this;grind
 have d2:R.pz (bC x-p-270)<=R.pz (-w+(2*(h:Nat)+22))/16:=by rw[<-d1];exact R.dM (by omega)
 have d3:R.pz (-w+(2*(h:Nat)+22))*2<=R.pz (bC x-p-61):=by
  rw[bYQ,<-R.jG];exact R.dM (by omega)
 rw[d1]at r1 r2 r3 r4;have dp:=R.dS (-w+(2*(h:Nat)+22));have ba:bl a<=70000:=by
  have:(a:Rat)<=R.pz (w+1):=by
   rw[R.dY]at ha;rw[R.jG];have b3:=R.aG (bRD (R.dS w)) (show 0<=1-V by grind);have:R.pz (2*(h:Nat)+18)<=R.pz w:=R.dM (by omega);grind
  obtain⟨n,hn⟩:=bQY (show 0<=w+1 by omega);rw[hn,R.oF]at this;have:a<=2^n:=by exact_mod_cast this
  refine bMS (gN this) ?_;rw[aFU];omega
 have bf:bl (2^(2*h+22))<=500:=by rw[aFU];omega
 have bs:bl (a-2^(2*h+22))<=70000:=bMS (gN (bSU _ _)) ba;have bt:bl (a+2^(2*h+22))<=70001:=bMS (yD _ _) (by omega);have j1:fM ((a-2^(2*h+22):Nat):Int) (-w)=true:=fJ (by omega) (by rw[bRO];omega);have j2:fM ((a+2^(2*h+22):Nat):Int) (-w)=true:=fJ (by omega) (by rw[bRO];omega);have p1:iS (bB.Ek a (2^(2*h+22)) w):=eZ j1 (by rw[bRO];omega);have p2:iS (bB.yU a (2^(2*h+22)) w):=eZ j2 (by rw[bRO];omega);have aLJ:∀{z:Nat},bl z<=70001->iS (aL (z:Int) (-w))->aXF (aL (z:Int) (-w)):=by
  intro z hz hP;refine⟨hP,?_⟩;have hb:=oT (z:Int) (-w);rw[bRO]at hb
  by_cases z0:(z:Int)=0
  ·rw[z0,cV];show(0:Int)+((bl (0:Int).natAbs:Nat):Int)<=1048000;decide +kernel
  ·have h2:=(jH (e:=-w) z0).2;have h3:=Aa (n:=z) (by omega);rw[bRO]at h2;omega
 obtain⟨s1,s2⟩:=Kd (up:=false) (n:=p+32) (aLJ (by omega) p1) (by omega);obtain⟨s3,s4⟩:=Kd (up:=true) (n:=p+32) (aLJ bt p2) (by omega);refine⟨⟨by omega,by omega,⟨by omega,by omega⟩,s1,s3,s4⟩,s2,?_,?_,?_,?_⟩ <;> grind
end M
namespace M
open Go AI W
theorem aNB(up:Bool)(p:Int×Int){n:Int}(hn:bC p+1-n<=0):bC p+1-n<=(shD up p n).2:=by
 have key:∀z e:Int,bC p+1-n<=e->bC p+1-n<=(aL z e).2:=by
  intro z e he
  by_cases hz:z=0
  ·rw[hz,cV];exact hn
  ·have:=kY (e:=e) hz;omega
 unfold shD bR.lO;unfold bC at *;split
 ·exact key _ _ (by omega)
 ·exact key _ _ (by omega)
theorem Wa{up:Bool}{p:Int×Int}{n:Int}(h:(shD up p n).1≠0):bC p+1-n<=(shD up p n).2:=by
 have key:∀z e:Int,(aL z e).1≠0->bC p+1-n<=e->bC p+1-n<=(aL z e).2:=by
  intro z e h0 he;have:=kY (e:=e) (fun hz=>h0 (dO.2 hz));omega
 unfold shD at *;refine key _ _ h ?_;unfold bR.lO bC at *;split <;> (dsimp only;omega)
theorem Nu{p q:Int×Int}{E:Int}(h1:E<=p.2)(h2:E<=q.2)(h0:E<=0):E<=(bA.jL p q).2:=by
 have hm:E<=bA.fH p q:=by unfold bA.fH;split <;> omega
 unfold bA.jL;split
 ·exact h2
 ·split
  ·exact h1
  ·by_cases hz:bA.lH p q+bA.lG p q=0
   ·rw[hz,cV];exact h0
   ·have:=kY (e:=bA.fH p q) hz;omega
theorem aFW{p:Int×Int}{E F:Int}(h1:E<=p.2)(h2:R.ab (R.qz p)<=R.pz F):(bl p.1.natAbs:Int)<=F+1-E\/bl p.1.natAbs=0:=by
 by_cases h0:p.1=0
 ·right;rw[h0];rfl
 ·left;have:=xR h0 h2;unfold bC at this;omega
theorem Ew(k:Int):R.qz (-1,k)=-R.pz k:=by
 unfold R.qz;dsimp only;have:((-1:Int):Rat)=-1:=by norm_cast
 rw[this];grind
theorem Pm{k:Int}(h:-1048576<=k/\k<=1048576):iS (-1,k):=⟨by show bl (-1:Int).natAbs<=524288;decide +kernel,h,fun h=>absurd (show(-1:Int)=0 from h) (by decide),fun _=>by show(-1:Int)%2=1;decide⟩
theorem Vm{x:Int×Int}(h0:x.1≠0)(hT:R.ab (R.qz x)<=4/5):bC x<=-1:=by
 have:R.ab (R.qz x)<R.pz 0:=by rw[R.fC];grind
 have:=Bq h0 this;omega
structure aRE(x:Int×Int)(p:Int):Prop where
 pl:iS (eK.qT x p)
 ph:iS (eK.pU x p)
 bl:bl (eK.qT x p).1.natAbs<=80000
 bh:M.bl (eK.pU x p).1.natAbs<=80000
 lo:R.qz (eK.qT x p)<=R.sn (R.ab (R.qz x))-R.pz (bC x-p-270)
 hi:R.sn (R.ab (R.qz x))<=R.qz (eK.pU x p)
 wd:R.qz (eK.pU x p)-R.qz (eK.qT x p)<=R.pz (-p-1)*R.ab (R.qz x)
 one:R.qz (eK.pU x p)<=1
 mh:¬2*bC x+8 < -p->R.sn (R.ab (R.qz x))+R.pz (bC x-p-270)<=R.qz (eK.pU x p)
 pos:0<R.qz (eK.qT x p)
 aXU:2*bC x+8 < -p->nT true ((x.1.natAbs:Int),x.2) (p+32)=true/\nT false ((x.1.natAbs:Int),x.2) (p+32)=true/\iS (shD false ((x.1.natAbs:Int),x.2) (p+32))/\bA.gJ (shD false ((x.1.natAbs:Int),x.2) (p+32)) (-1,bC x-p-3)=true
 okB:¬2*bC x+8 < -p->bD.Nn x p/\bD.aFZ (aP.yQ x p).1 (2^(2*aP.hv x p+22)) (aP.w2 x p) (p+32)
theorem aLC{p:Int}(hp:1<=p):R.pz (-p-1)<=1/4:=by
 have h:=R.dM (show -p-1<=-2 by omega);have h2:=R.zC 2;rw[show -((2:Nat):Int)=-2 by rfl]at h2;rw[h2]at h;have h3:R.hf 2=1/4:=by simp[R.hf];grind
 grind
theorem Pg{x:Int×Int}{p:Int}(hx:iS x)(h0:x.1≠0)(hT:R.ab (R.qz x)<=4/5)(ht:-1200<=bC x)(hp:1<=p/\p<=67100):aRE x p:=by
 have h1:=Vm h0 hT;obtain⟨e1,e2,h4,h5,h6,bBR,bBQ⟩:=Ba h0 (by omega) ht hp;obtain⟨t1,t2⟩:=rU h0;have tp:=R.dS (bC x);have T0:0<R.ab (R.qz x):=by grind
 obtain⟨v1,v2⟩:=R.aBW (bRD T0) hT;obtain⟨z,hz⟩:∃z,z=R.pz (-p-31):=⟨_,rfl⟩;have z0:=R.dS (-p-31);have q1:R.pz (-p-1)=1073741824*z:=by
  have:=R.fZ (-p-1) (n:=30) (c:=1073741824) (by norm_cast);rw[show -p-1-((30:Nat):Int)=-p-31 by omega,<-hz]at this;grind
 have q2:R.pz (bC x-p-61)=z*R.pz (bC x)/1073741824:=by
  have:=R.fZ (-p-31+bC x) (n:=30) (c:=1073741824) (by norm_cast);rw[show -p-31+bC x-((30:Nat):Int)=bC x-p-61 by omega,R.mD,<-hz]at this;grind
 have q3:R.pz (bC x-p-3)=268435456*(z*R.pz (bC x)):=by
  have:=R.fZ (bC x-p-3) (n:=28) (c:=268435456) (by norm_cast);rw[show bC x-p-3-((28:Nat):Int)=-p-31+bC x by omega,R.mD,<-hz]at this;grind
 have sm:=aLC hp.1;rw[q1]at sm;rw[<-hz]at z0;have zt:=R.aG (bRD z0) (show 0<=R.ab (R.qz x)-R.pz (bC x) by grind);have zT:=R.aG (bRD T0) (show 0<=1/4-1073741824*z by grind);have aIT:R.pz (bC x-p-270)<=R.pz (bC x-p-61):=R.dM (by omega);have p270:=R.dS (bC x-p-270)
 by_cases c:2*bC x+8 < -p
 ·have dL:eK.qT x p=bA.jL (shD false ((x.1.natAbs:Int),x.2) (p+32)) (-1,bC x-p-3):=by unfold eK.qT;rw[e1,if_pos c]
  have dH:eK.pU x p=shD true ((x.1.natAbs:Int),x.2) (p+32):=by unfold eK.pU;rw[e1,if_pos c]
  have pX:=uQ hx;have vX:=Gg x;have tX:=aHU x;have n1:=(Bv false ((x.1.natAbs:Int),x.2) (n:=p+32) (by omega)).1 rfl;have n2:=(Bv true ((x.1.natAbs:Int),x.2) (n:=p+32) (by omega)).2 rfl;rw[vX,show(1:Int)-(p+32)=-p-31 by omega,<-hz,R.bN (bRD T0)]at n1 n2;have aLJ:aXF ((x.1.natAbs:Int),x.2):=⟨pX,by unfold bC at tX h1;dsimp only at *;omega⟩;obtain⟨s1,s2⟩:=Kd (up:=false) (n:=p+32) aLJ (by omega);obtain⟨s3,s4⟩:=Kd (up:=true) (n:=p+32) aLJ (by omega);have x1:=aNB false ((x.1.natAbs:Int),x.2) (n:=p+32) (by rw[tX];omega);have x2:=wI true ((x.1.natAbs:Int),x.2) (p+32).toNat;rw[tX]at x1;rw[show(((p+32).toNat:Nat):Int)=p+32 by omega]at x2;have pm:=Pm (k:=bC x-p-3) (by omega);have T1:R.ab (R.qz x)<=R.pz (bC x+1):=bRD t2;have L0:0<=R.qz (shD false ((x.1.natAbs:Int),x.2) (p+32)):=by grind
  have aVO:bA.gJ (shD false ((x.1.natAbs:Int),x.2) (p+32)) (-1,bC x-p-3)=true:=by
   refine Ut (E:=bC x-p-40) (n:=(p+41).toNat) s2 pm (by omega) (by dsimp only;omega) ?_ ?_ (by omega) (by omega) (by omega)
   ·rw[show bC x-p-40+(((p+41).toNat:Nat):Int)=bC x+1 by omega,R.bN L0];grind
   ·rw[Ew,R.gT,R.bN (bRD (R.dS _))];exact R.dM (by omega)
  have pl:=Ai s2 pm aVO;have xl:=Nu (p:=shD false ((x.1.natAbs:Int),x.2) (p+32)) (q:=(-1,bC x-p-3)) (E:=bC x-p-40) (by omega) (by dsimp only;omega) (by omega);have ql:=Gf (shD false ((x.1.natAbs:Int),x.2) (p+32)) (-1,bC x-p-3);rw[Ew,q3]at ql;rw[<-dL]at pl xl ql;rw[<-dH]at s4 x2 n2;have cube:R.ab (R.qz x)-z*R.pz (bC x)*268435456/16<=R.sn (R.ab (R.qz x)):=by
   have s:=(R.Ae (bRD T0) (show R.ab (R.qz x)<=1 by grind)).1;have a1:R.ab (R.qz x)*R.ab (R.qz x)<=R.pz (bC x+1)*R.pz (bC x+1):=R.cX (bRD T0) T1 (bRD T0) T1;rw[<-R.mD]at a1;have a2:R.pz (bC x+1+(bC x+1))<=R.pz (-p-7):=R.dM (by omega);have a3:R.pz (-p-7)=16777216*z:=by
    have:=R.fZ (-p-7) (n:=24) (c:=16777216) (by norm_cast);rw[show -p-7-((24:Nat):Int)=-p-31 by omega,<-hz]at this;grind
   have a4:=R.aG (show 0<=16777216*z-R.ab (R.qz x)*R.ab (R.qz x) by grind) (bRD T0);rw[R.jG]at T1;have a5:=R.aG (bRD z0) (show 0<=2*R.pz (bC x)-R.ab (R.qz x) by grind);generalize R.ab (R.qz x)=T at *;grind
  have bFT:=bRP z0 tp;refine⟨pl,s4,?_,by omega,?_,?_,?_,?_,fun h=>absurd c h,?_,fun _=>⟨s3,s1,s2,aVO⟩,fun h=>absurd c h⟩
  ·have v:R.ab (R.qz (eK.qT x p))<=R.pz (bC x+1):=by
    rw[R.bN (by grind)];grind
   have:=aFW xl v;omega
  ·rw[q2]at aIT;grind
  ·grind
  ·rw[q1];grind
  ·grind
  ·grind
 ·have dL:eK.qT x p=shD false (bB.Ek (aP.yQ x p).1 (2^(2*aP.hv x p+22)) (aP.w2 x p)) (p+32):=by unfold eK.qT;rw[e1,if_neg c]
  have dH:eK.pU x p=bB.vD (shD true (bB.yU (aP.yQ x p).1 (2^(2*aP.hv x p+22)) (aP.w2 x p)) (p+32)):=by unfold eK.pU;rw[e1,if_neg c]
  obtain⟨b1,b2,b3⟩:=Rc h0 (by grind) (by omega) ht hp;have hV:R.pz (bC x-1)<=R.sn (R.ab (R.qz x)):=by
   have:=R.uN (bC x);grind
  obtain⟨a1,a2,a3,a4,a5,a6⟩:=aVN h0 (by omega) ht hp hV (by grind) b2;have a7:=a1.2.2.2.2.2;have c1:=wI false (bB.Ek (aP.yQ x p).1 (2^(2*aP.hv x p+22)) (aP.w2 x p)) (p+32).toNat;have c2:=wI true (bB.yU (aP.yQ x p).1 (2^(2*aP.hv x p+22)) (aP.w2 x p)) (p+32).toNat;rw[show(((p+32).toNat:Nat):Int)=p+32 by omega]at c1 c2;obtain⟨k1,k2,k3,k4⟩:=Xw (shD true (bB.yU (aP.yQ x p).1 (2^(2*aP.hv x p+22)) (aP.w2 x p)) (p+32));have c3:=aFR (n:=80000) (by omega) (show bl (shD true (bB.yU (aP.yQ x p).1 (2^(2*aP.hv x p+22)) (aP.w2 x p)) (p+32)).1.natAbs<=80000 by omega);have c4:=Wl a7;rw[<-dL]at a2 a3 a4 c1;rw[<-dH]at k1 k2 k3 k4 c3 c4;generalize shD true (bB.yU (aP.yQ x p).1 (2^(2*aP.hv x p+22)) (aP.w2 x p)) (p+32)=hi at *;rw[<-hz]at a4 a6;have zV:=R.aG (bRD z0) (show 0<=R.ab (R.qz x)-R.sn (R.ab (R.qz x)) by grind);have hm:R.sn (R.ab (R.qz x))+R.pz (bC x-p-270)<=R.qz (eK.pU x p):=by
   refine k4 _ a5 ?_;rw[q2]at aIT;grind
  refine⟨a2,c4,by omega,c3,a3,by grind,?_,k1,fun _=>hm,?_,fun h=>absurd h c,fun _=>⟨⟨⟨by omega,by omega⟩,b1⟩,a1⟩⟩
  ·rw[q1];rw[q2]at a4 a6;grind
  ·rw[q2]at a4;grind
structure aXG(x:Int×Int)(p:Int):Prop where
 pl:iS (bD.rD x p)
 ph:iS (bD.qD x p)
 bl:bl (bD.rD x p).1.natAbs<=80000
 bh:M.bl (bD.qD x p).1.natAbs<=80000
 lo:R.qz (bD.rD x p)<=R.cs (R.ab (R.qz x))
 hi:R.cs (R.ab (R.qz x))<=R.qz (bD.qD x p)
 wd:R.qz (bD.qD x p)-R.qz (bD.rD x p)<=R.pz (-p-1)
 one:R.qz (bD.qD x p)<=1
 ml:x.1≠0->R.qz (bD.rD x p)<=R.cs (R.ab (R.qz x))-R.pz (bC x-p-270)
 mh:x.1≠0->¬2*bC x+8 < -p->R.cs (R.ab (R.qz x))+R.pz (bC x-p-270)<=R.qz (bD.qD x p)
 aXU:x.1≠0->2*bC x+8 < -p->bA.gJ (1,0) (-1,-p-3)=true
 okB:x.1≠0->¬2*bC x+8 < -p->bD.Nn x p/\bD.aFZ (aP.yQ x p).2 (2^(2*aP.hv x p+22)) (aP.w2 x p) (p+32)
theorem Hp{x:Int×Int}{p:Int}(hT:R.ab (R.qz x)<=4/5)(ht:x.1≠0->-1200<=bC x)(hp:1<=p/\p<=67100):aXG x p:=by
 obtain⟨z,hz⟩:∃z,z=R.pz (-p-31):=⟨_,rfl⟩;have z0:=R.dS (-p-31);have q1:R.pz (-p-1)=1073741824*z:=by
  have:=R.fZ (-p-1) (n:=30) (c:=1073741824) (by norm_cast);rw[show -p-1-((30:Nat):Int)=-p-31 by omega,<-hz]at this;grind
 have sm:=aLC hp.1;rw[q1]at sm;rw[<-hz]at z0
 by_cases h0:x.1=0
 ·have dL:bD.rD x p=(1,0):=by unfold bD.rD;rw[if_pos h0]
  have dH:bD.qD x p=(1,0):=by unfold bD.qD;rw[if_pos h0]
  have c1:R.cs (R.ab (R.qz x))=1:=by rw[R.nA h0,R.bN (bSK),R.Xq]
  refine⟨by rw[dL];exact xU,by rw[dH];exact xU,by rw[dL];decide +kernel,by rw[dH];decide +kernel,by rw[dL,oD,c1];exact bSK,by rw[dH,oD,c1];exact bSK,?_,by rw[dH,oD];exact bSK,fun h=>absurd h0 h,fun h=>absurd h0 h,fun h=>absurd h0 h,fun h=>absurd h0 h⟩;rw[dL,dH,q1];grind
 ·have ht:=ht h0;have h1:=Vm h0 hT;obtain⟨e1,e2,h4,h5,h6,bBR,bBQ⟩:=Ba h0 (by omega) ht hp;obtain⟨t1,t2⟩:=rU h0;have tp:=R.dS (bC x);have T0:0<R.ab (R.qz x):=by grind
  obtain⟨v1,v2⟩:=R.Xs (r:=R.ab (R.qz x)) (by rw[R.bN (bRD T0)];exact hT);have T1:R.ab (R.qz x)<=R.pz (bC x+1):=bRD t2;have pt:R.pz (bC x)<=1/2:=by
   have:=R.dM (show bC x+1<=0 by omega);rw[R.jG,R.fC]at this;grind
  have q2:R.pz (bC x-p-61)=z*R.pz (bC x)/1073741824:=by
   have:=R.fZ (-p-31+bC x) (n:=30) (c:=1073741824) (by norm_cast);rw[show -p-31+bC x-((30:Nat):Int)=bC x-p-61 by omega,R.mD,<-hz]at this;grind
  have zt:=R.aG (bRD z0) (show 0<=1/2-R.pz (bC x) by grind);have bFT:=bRP z0 tp;have aIT:R.pz (bC x-p-270)<=R.pz (bC x-p-61):=R.dM (by omega);rw[q2]at aIT;have cs2:=R.Qw (bRD T0) (show R.ab (R.qz x)<=1 by grind)
  by_cases c:2*bC x+8 < -p
  ·have dL:bD.rD x p=bA.jL (1,0) (-1,-p-3):=by unfold bD.rD;rw[e1,if_neg h0,if_pos c]
   have dH:bD.qD x p=(1,0):=by unfold bD.qD;rw[e1,if_neg h0,if_pos c]
   have pm:=Pm (k:=-p-3) (by omega);have o1:R.ab (R.qz (1,0))<=R.pz 0:=by rw[oD,R.fC,R.bN (by grind)];exact bSK
   have aVO:bA.gJ (1,0) (-1,-p-3)=true:=by
    refine Ut (E:=-p-3) (n:=(p+3).toNat) xU pm (by dsimp only;omega) (by dsimp only;omega) ?_ ?_ (by omega) (by omega) (by omega)
    ·rw[show -p-3+(((p+3).toNat:Nat):Int)=0 by omega];exact o1
    ·rw[Ew,R.gT,R.bN (bRD (R.dS _))];exact R.dM (by omega)
   have pl:=Ai xU pm aVO;have xl:=Nu (p:=(1,0)) (q:=(-1,-p-3)) (E:=-p-3) (by dsimp only;omega) (by dsimp only;omega) (by omega);have ql:=Gf (1,0) (-1,-p-3);have q3:R.pz (-p-3)=268435456*z:=by
    have:=R.fZ (-p-3) (n:=28) (c:=268435456) (by norm_cast);rw[show -p-3-((28:Nat):Int)=-p-31 by omega,<-hz]at this;grind
   rw[Ew,oD,q3]at ql;rw[<-dL]at pl xl ql;have lo:R.qz (bD.rD x p)<=R.cs (R.ab (R.qz x))-R.pz (bC x-p-270):=by
    have a1:R.ab (R.qz x)*R.ab (R.qz x)<=R.pz (bC x+1)*R.pz (bC x+1):=R.cX (bRD T0) T1 (bRD T0) T1;rw[<-R.mD]at a1;have a2:R.pz (bC x+1+(bC x+1))<=R.pz (-p-7):=R.dM (by omega);have a3:R.pz (-p-7)=16777216*z:=by
     have:=R.fZ (-p-7) (n:=24) (c:=16777216) (by norm_cast);rw[show -p-7-((24:Nat):Int)=-p-31 by omega,<-hz]at this;grind
    grind
   refine⟨pl,by rw[dH];exact xU,?_,by rw[dH];decide +kernel,?_,by rw[dH,oD];exact v2,?_,by rw[dH,oD];exact bSK,fun _=>lo,fun _ h=>absurd c h,fun _ _=>aVO,fun _ h=>absurd c h⟩
   ·have v:R.ab (R.qz (bD.rD x p))<=R.pz 0:=by
     rw[R.fC,R.bN (by grind)];grind
    have:=aFW xl v;omega
   ·have:=R.dS (bC x-p-270);grind
   ·rw[dH,oD,q1];grind
  ·have dL:bD.rD x p=shD false (bB.Ek (aP.yQ x p).2 (2^(2*aP.hv x p+22)) (aP.w2 x p)) (p+32):=by unfold bD.rD;rw[e1,if_neg h0,if_neg c]
   have dH:bD.qD x p=bB.vD (shD true (bB.yU (aP.yQ x p).2 (2^(2*aP.hv x p+22)) (aP.w2 x p)) (p+32)):=by unfold bD.qD;rw[e1,if_neg h0,if_neg c]
   obtain⟨b1,b2,b3⟩:=Rc h0 (by grind) (by omega) ht hp;have hV:R.pz (bC x-1)<=R.cs (R.ab (R.qz x)):=by
    have:=R.uN (bC x);grind
   obtain⟨a1,a2,a3,a4,a5,a6⟩:=aVN h0 (by omega) ht hp hV v2 b3;have a7:=a1.2.2.2.2.2;have c1:=wI false (bB.Ek (aP.yQ x p).2 (2^(2*aP.hv x p+22)) (aP.w2 x p)) (p+32).toNat;have c2:=wI true (bB.yU (aP.yQ x p).2 (2^(2*aP.hv x p+22)) (aP.w2 x p)) (p+32).toNat;rw[show(((p+32).toNat:Nat):Int)=p+32 by omega]at c1 c2;obtain⟨k1,k2,k3,k4⟩:=Xw (shD true (bB.yU (aP.yQ x p).2 (2^(2*aP.hv x p+22)) (aP.w2 x p)) (p+32));have c3:=aFR (n:=80000) (by omega) (show bl (shD true (bB.yU (aP.yQ x p).2 (2^(2*aP.hv x p+22)) (aP.w2 x p)) (p+32)).1.natAbs<=80000 by omega);have c4:=Wl a7;rw[<-dL]at a2 a3 a4 c1;rw[<-dH]at k1 k2 k3 k4 c3 c4;generalize shD true (bB.yU (aP.yQ x p).2 (2^(2*aP.hv x p+22)) (aP.w2 x p)) (p+32)=hi at *;rw[<-hz]at a4 a6;have zV:=R.aG (bRD z0) (show 0<=1-R.cs (R.ab (R.qz x)) by grind);have m9:=R.dS (bC x-p-270);have room:R.cs (R.ab (R.qz x))+R.pz (bC x-p-270)<=1:=by
    have a1:R.pz (bC x)*R.pz (bC x)<=R.ab (R.qz x)*R.ab (R.qz x):=R.cX (bRD tp) t1 (bRD tp) t1;rw[<-R.mD]at a1;have a2:R.pz (-p-9)<=R.pz (bC x+bC x):=R.dM (by omega);have a3:R.pz (-p-9)=4194304*z:=by
     have:=R.fZ (-p-9) (n:=22) (c:=4194304) (by norm_cast);rw[show -p-9-((22:Nat):Int)=-p-31 by omega,<-hz]at this;grind
    have a5:=R.cX (bRD T0) hT (bRD T0) hT;have a6:=R.aG (show 0<=R.ab (R.qz x)*R.ab (R.qz x) by grind) (show 0<=16/25-R.ab (R.qz x)*R.ab (R.qz x) by grind);generalize R.ab (R.qz x)=T at *;grind
   have hm:R.cs (R.ab (R.qz x))+R.pz (bC x-p-270)<=R.qz (bD.qD x p):=k4 _ a5 room;rw[q2]at a4 a6;refine⟨a2,c4,by omega,c3,by grind,by grind,?_,k1,fun _=>a3,fun _ _=>hm,fun _ h=>absurd h c,fun _ _=>⟨⟨⟨by omega,by omega⟩,b1⟩,a1⟩⟩;rw[q1];grind
end M
namespace W
open Go AI M
namespace cA
def E:=mE [(118,eT.aH),(119,kT.aH)] 33 [15] [] []
def aE:=bd f65
theorem aU:Nk E aE:=nk
theorem start a b:aF E f65 aE [D.s (sc (int i64 a)),D.s (sc (int u64 b))]=letI F:=bif eT.hI a b then(0:Int)else(2:Int);letI B:=aM.gW a;letI I:=int i64 B.snd.fst;letI H:=int u64 B.snd.snd.snd;letI G:=int i64 B.snd.snd.fst;letI C:=(B.fst,B.snd.fst,B.snd.snd.fst,B.snd.snd.snd);letI A:=some [D.agg [sc (int i64 B.fst),sc I,sc G,sc H],D.s (sc (bool (eT.hI a b&&decide (dJ.dW B<=b)))),D.s (sc (int u64 (bif eT.hI a b then b%dJ.dW B else(0:Int)))),D.s (sc (int i64 F))];aO ((a=32\/a=64)/\0<=b/\b<18446744073709551616) (aB (F==0) (aO (aM.Bh C) (aB (decide (kT.mK C<=bif eT.hI a b then b%dJ.dW B else(0:Int))) (some [D.agg [sc (int i64 B.fst),sc I,sc G,sc H],D.s (sc (bool false)),D.s (sc (int u64 0)),D.s (sc (int i64 6))]) A)) A):=eJ aU
def iB(f b:Int):Bool:=decide (b%dJ.dW (aM.gW f)<kT.mK (aM.gW f))
theorem Ep{f:Int}(h:f=32\/f=64):aM.Bh (aM.gW f):=by
 rcases h with rfl |rfl
 ·exact .inl rfl
 ·exact .inr rfl
def sp(f b:Int):Prop×List D:=((f=32\/f=64)/\0<=b/\b<18446744073709551616,[aM.aXK (aM.gW f),.s (.sc (.bool (eT.hI f b&&(iB f b&&decide (dJ.dW (aM.gW f)<=b))))),.s (.sc (.int .u64 (bif eT.hI f b&&iB f b then b%dJ.dW (aM.gW f)else 0))),.s (.sc (.int .i64 (bif eT.hI f b then(bif iB f b then 0 else 6)else 2)))])
theorem spec:fI E f65 aE (pN .i64) (pN .u64) sp:=by
 intro f b h;refine(start f b).trans ((gP h).trans ?_);unfold sp iB
 try dsimp only
 have ht:=Ep h.1;generalize aM.gW f=s at *;obtain⟨s1,s2,s3,s4⟩:=s;cases hp:eT.hI f b with
 |false=>rfl
 |true =>
  try dsimp only[cond_true,bOX]
  rw[cN rfl,gP ht]
  by_cases hc:b%dJ.dW (s1,s2,s3,s4)<kT.mK (s1,s2,s3,s4)
  ·rw[aI,decide_eq_true hc];rfl
  ·rw[aN,decide_eq_false hc];rfl
def aH:dG:=orc2 (pN .i64) (pN .u64) sp
theorem ok:OK 65 aH:=(eF E aE (aA eT.ok (aA kT.ok aD)) func65).lA rfl spec
end cA
namespace iF
def E:=mE [(120,cY.aH)] 31 [] [] []
def aE:=bd f66
theorem aU:Nk E aE:=nk
theorem start a c d e b:aF E f66 aE [D.agg [sc (int i64 a),sc (int i64 c),sc (int i64 d),sc (int u64 e)],D.s (sc (int u64 b))]=letI B:=(a,c,d,e);letI C:=aM.Bh B;letI A:=cY.lR B;aO C (if cY.lR B=0 then none else aO C (if cY.lR B=0 then none else aB (u64.wrap (b.tdiv A)==0) (some [D.s (sc (int u64 (b.tmod A))),D.s (sc (int i64 d))]) (aO C (some [D.s (sc (int u64 (u64.wrap (cY.lR B+b.tmod A)))),D.s (sc (int i64 (i64.wrap (i64.wrap (d+i64.wrap (u64.wrap (b.tdiv A)))-1))))])))):=eJ aU
def Cg(s:Int×Int×Int×Int)(n:Int):Int:=if n/cY.lR s=0 then n%cY.lR s else cY.lR s+n%cY.lR s
def Ej(s:Int×Int×Int×Int)(n:Int):Int:=if n/cY.lR s=0 then s.2.2.1 else s.2.2.1+n/cY.lR s-1
def sp(s:Int×Int×Int×Int)(n:Int):Prop×List D:=(aM.Bh s/\0<=n/\n<9223372036854775808,[.s (.sc (.int .u64 (Cg s n))),.s (.sc (.int .i64 (Ej s n)))])
theorem spec:fI E f66 aE (pG (.pair (sN .i64) (.pair (sN .i64) (.pair (sN .i64) (sN .u64))))) (pN .u64) sp:=by
 rintro s n ⟨ht,h0,h1⟩;obtain⟨s1,s2,s3,s4⟩:=s;refine(start s1 s2 s3 s4 n).trans ?_;have hh:cY.lR (s1,s2,s3,s4)=8388608\/cY.lR (s1,s2,s3,s4)=4503599627370496:=by
  unfold cY.lR;split <;> simp
 have hs:-1074<=s3/\s3<=0:=by rcases ht with ht |ht <;> (cases ht;omega)
 unfold sp Cg Ej
 try dsimp only
 rw[gP ht,gP ht,gP ht];generalize cY.lR (s1,s2,s3,s4)=d at *;have t1:n.tdiv d=n/d:=bTL h0;have t2:n.tmod d=n%d:=bTM h0;have b1:0<=n/d/\n/d<9223372036854775808:=by rcases hh with rfl |rfl <;> omega
 have b2:0<=n%d/\n%d<4503599627370496:=by rcases hh with rfl |rfl <;> omega
 rw[t1,t2,aX,aX,wrap_u64 (n:=n/d)]
 by_cases hz:n/d=0
 ·rw[cN hz,if_pos hz,if_pos hz]
 ·rw[bV hz,if_neg hz,if_neg hz,wrap_u64,wrap_i64 (n:=n/d),wrap_i64 (n:=s3+n/d),wrap_i64]
def aH:dG:=orc2 (pG (.pair (sN .i64) (.pair (sN .i64) (.pair (sN .i64) (sN .u64))))) (pN .u64) sp
theorem ok:OK 66 aH:=(eF E aE (aA cY.ok aD) func66).lA rfl spec
end iF
namespace Om
def E:=mE [(117,mM.aH),(63,iJ.aH)] 20 [17] [] []
def aE:=bd f67
theorem aU:Nk E aE:=nk
theorem start a b c:aF E f67 aE [D.s (sc (bool a)),D.s (sc (int u64 b)),D.s (sc (int i64 c))]=letI G:=(b !=0,M6.dg b.toNat);letI F:=wv (bif true then b !=0 else false,M6.dg b.toNat);letI C:=(false,M6.dg b.toNat);letI B:=bif fM (wv C) c then aL (wv C) c else((0:Int),(0:Int));letI A:=bif fM F c then aL F c else((0:Int),(0:Int));aB a (aO (0<=b/\b<18446744073709551616) (aO (jY G/\(-9223372036854775808:Int)<=c/\c<9223372036854775808) (some [D.agg [sc (bool (isNeg A.fst)),ints u64 (M6.dg A.fst.natAbs),sc (int i64 A.snd)],D.s (sc (int i64 (bif fM (wv G) c then(0:Int)else(5:Int))))]))) (aO (0<=b/\b<18446744073709551616) (aO (jY C/\(-9223372036854775808:Int)<=c/\c<9223372036854775808) (some [D.agg [sc (bool (isNeg B.fst)),ints u64 (M6.dg B.fst.natAbs),sc (int i64 B.snd)],D.s (sc (int i64 (bif fM (wv C) c then(0:Int)else(5:Int))))]))):=eJ aU
def sp(a:Bool)(b c:Int):Prop×List D:=((0<=b/\b<18446744073709551616)/\-9223372036854775808<=c/\c<9223372036854775808,dE (fM (zs a b.toNat) c) (aL (zs a b.toNat) c))
theorem spec:sR E f67 aE pB (pN .u64) (pN .i64) sp:=by
 rintro a b c ⟨hb,hc⟩;refine(start a b c).trans ?_;have hl:=eQ (n:=b.toNat) (k:=1) (dU.2 (by omega));have aKS:∀s:Bool,wv (s,M6.dg b.toNat)=zs s b.toNat:=fun s=>by show zs s (M6.val (M6.dg b.toNat))=_;rw[M6.bI]
 have h0:jY (false,M6.dg b.toNat):=⟨M6.aW _,fun h=>Bool.noConfusion h,(by omega:(M6.dg b.toNat).length<=8192)⟩;cases a with
 |false =>
  rw[bF,gP hb,gP ⟨h0,hc⟩,aKS];rfl
 |true =>
  have h1:jY (b !=0,M6.dg b.toNat):=⟨M6.aW _,fun h=>by
   have hb0:b≠0:=bne_iff_ne.1 h;show M6.val (M6.dg b.toNat)≠0;rw[M6.bI];omega,by show(M6.dg b.toNat).length<=8192;omega⟩
  have e:zs (b !=0) b.toNat=zs true b.toNat:=by
   by_cases hb0:b=0
   ·subst hb0;rfl
   ·rw[bne_iff_ne.2 hb0]
  rw[bT]
  try dsimp only[cond_true]
  rw[gP hb,gP ⟨h1,hc⟩,aKS,e];rfl
def aH:dG:=orc3 pB (pN .u64) (pN .i64) sp
theorem ok:OK 67 aH:=(eF E aE (aA mM.ok (aA iJ.ok aD)) func67).Al rfl spec
end Om
namespace bM
def E:=mE [(65,cA.aH),(66,iF.aH),(67,Om.aH)] 36 [15,33] [] []
def aE:=bd f25
theorem aU:Nk E aE:=nk
theorem start a b:aF E f25 aE [D.s (sc (int i64 a)),D.s (sc (int u64 b))]=letI H:=bif eT.hI a b then bif cA.iB a b then(0:Int)else(6:Int)else(2:Int);letI C:=aM.gW a;letI F:=(C.fst,C.snd.fst,C.snd.snd.fst,C.snd.snd.snd);letI B:=bif eT.hI a b&&cA.iB a b then b%dJ.dW C else(0:Int);letI I:=iF.Ej F B;letI G:=zs (eT.hI a b&&(cA.iB a b&&decide (dJ.dW C<=b))) (iF.Cg F B).toNat;letI A:=bif fM G I then aL G I else((0:Int),(0:Int));aO ((a=32\/a=64)/\0<=b/\b<18446744073709551616) (aB (H !=0) (some [D.agg [sc (bool false),sc (slice none 0 0),sc (int i64 0)],D.s (sc (int i64 H))]) (aO (aM.Bh F/\(0<=bif eT.hI a b&&cA.iB a b then b%dJ.dW C else(0:Int))/\B<9223372036854775808) (aO ((0<=iF.Cg F B/\iF.Cg F B<18446744073709551616)/\(-9223372036854775808:Int)<=iF.Ej F B/\iF.Ej F B<9223372036854775808) (some [D.agg [sc (bool (isNeg A.fst)),ints u64 (M6.dg A.fst.natAbs),sc (int i64 A.snd)],D.s (sc (int i64 (bif fM G I then(0:Int)else(5:Int))))])))):=eJ aU
def lZ(f b:Int):Int:=zs (decide (dJ.dW (aM.gW f)<=b)) (iF.Cg (aM.gW f) (b%dJ.dW (aM.gW f))).toNat
def mA(f b:Int):Int:=iF.Ej (aM.gW f) (b%dJ.dW (aM.gW f))
def sp(f b:Int):Prop×List D:=((f=32\/f=64)/\0<=b/\b<18446744073709551616,[dD (bif eT.hI f b&&cA.iB f b then aL (lZ f b) (mA f b)else(0,0)),.s (.sc (.int .i64 (bif eT.hI f b then(bif cA.iB f b then 0 else 6)else 2)))])
theorem Th{s:Int×Int×Int×Int}{n:Int}(_:aM.Bh s)(_:0<=n):0<=iF.Cg s n/\iF.Cg s n<9007199254740992:=by
 unfold iF.Cg cY.lR;split <;> split <;> omega
theorem Uc{s:Int×Int×Int×Int}{n:Int}(ht:aM.Bh s)(h0:0<=n)(h1:n<kT.mK s):-1074<=iF.Ej s n/\iF.Ej s n<1024:=by
 rcases ht with rfl |rfl
 ·unfold iF.Ej;have:n<2139095040:=h1;rw[show cY.lR (32,24,-149,2143289345)=8388608 from rfl]
  try dsimp only
  split <;> omega
 ·unfold iF.Ej;have:n<9218868437227405312:=h1;rw[show cY.lR (64,53,-1074,9221120237041090561)=4503599627370496 from rfl]
  try dsimp only
  split <;> omega
theorem aNR{z e:Int}(hz:z.natAbs<9007199254740992)(h0:-1074<=e)(h1:e<1024):fM z e=true:=by
 unfold fM
 by_cases hc:z=0
 ·rw[decide_eq_true hc,bRG]
 ·have h2:=Aa (n:=z.natAbs) (by omega);have h3:bl z.natAbs<=53:=dU.2 (by omega);rw[decide_eq_true (show -1048576<=e+(tz z.natAbs:Int) by omega),decide_eq_true (show e+(tz z.natAbs:Int)<=1048576 by omega),bOX,bRV]
theorem spec:El E f25 aE (pN .i64) (pN .u64) sp:=by
 intro f b h;have e:=(start f b).trans (gP h);have ht:=cA.Ep h.1;have hb0:0<=b:=h.2.1;unfold sp
 try dsimp only
 cases hp:eT.hI f b with
 |false =>
  rw[hp]at e;refine⟨_,e,.cons ?_ (fP.refl _)⟩;unfold dD;rw[bRF,cond_false,show((0,0):Int×Int).1.natAbs=0 from rfl,M6.bJ];exact vW.agg (.cons (yN.refl _) (.cons (yN.nil _) (uH.refl _)))
 |true =>
  rw[hp]at e;cases hq:cA.iB f b with
  |false =>
   rw[hq]at e;refine⟨_,e,.cons ?_ (fP.refl _)⟩;unfold dD;rw[bRI,cond_false,show((0,0):Int×Int).1.natAbs=0 from rfl,M6.bJ];exact vW.agg (.cons (yN.refl _) (.cons (yN.nil _) (uH.refl _)))
  |true =>
   rw[hq]at e;have Eg:0<=b%dJ.dW (aM.gW f):=by
    unfold dJ.dW;split <;> omega
   have qB:b%dJ.dW (aM.gW f)<kT.mK (aM.gW f):=of_decide_eq_true hq;have hinf:kT.mK (aM.gW f)<=9218868437227405312:=by unfold kT.mK;split <;> omega
   have hm:=Th ht Eg;have hx:=Uc ht Eg qB;rw[show(true&&true)=true from rfl]at e
   try dsimp only[cond_true]at e
   rw[show((aM.gW f).1,(aM.gW f).2.1,(aM.gW f).2.2.1,(aM.gW f).2.2.2)=aM.gW f from rfl]at e;rw[fD rfl,gP ⟨ht,Eg,by omega⟩,gP ⟨⟨hm.1,by omega⟩,by omega,by omega⟩]at e;refine⟨_,e,?_⟩;have hi:fM (lZ f b) (mA f b)=true:=aNR (by unfold lZ;rw[kB];omega) hx.1 hx.2;unfold lZ mA at hi;unfold lZ mA;rw[show(true&&(true&&decide (dJ.dW (aM.gW f)<=b)))=decide (dJ.dW (aM.gW f)<=b)from rfl,hi];exact fP.refl _
def aH:dG:=orc2 (pN .i64) (pN .u64) sp
theorem ok:OK 25 aH:=(eF E aE (aA cA.ok (aA iF.ok (aA Om.ok aD))) func25).aAF rfl spec
end bM
namespace Vj
def bCU(p:Int×Int):Bool:=decide (bZ ((p.1.natAbs:Int),p.2) (3,-2)<=0)
end Vj
end W
namespace R
open W.Arctan
theorem yY{k w:Nat}(hk:2<=k):∀f j p m,2^w/k^(2*j+1)<4^f->m<=p->(j%2=1->m+fN k w j<=p) ->
  ∃N J,rounds k f (2^w/k^(2*j+1)) p m (2*j+1) j=(N,J)/\J<=j+f/\(N:Rat)=(p:Rat)-(m:Rat)+(sum (fun i=>sg i*(fN k w i:Rat)) J-sum (fun i=>sg i*(fN k w i:Rat)) j)/\fN k w J=0
 |0,j,p,m,h,hm,_=>by
  have h0:2^w/k^(2*j+1)=0:=by simpa using h
  refine⟨p-m,j,rfl,bLW _,?_,by unfold fN;rw[h0,bVQ]⟩;have:((p-m:Nat):Rat)=(p:Rat)-(m:Rat):=by
   have e:p-m+m=p:=by omega
   have e2:((p-m:Nat):Rat)+(m:Rat)=(p:Rat):=by exact_mod_cast e
   grind
  rw[this];grind
 |f+1,j,p,m,h,hm,ho=>by
  by_cases h0:2^w/k^(2*j+1)=0
  ·refine⟨p-m,j,by unfold rounds;rw[if_pos h0],by omega,?_,by unfold fN;rw[h0,bVQ]⟩;have:((p-m:Nat):Rat)=(p:Rat)-(m:Rat):=by
    have e:p-m+m=p:=by omega
    have e2:((p-m:Nat):Rat)+(m:Rat)=(p:Rat):=by exact_mod_cast e
    grind
   rw[this];grind
  ·have e1:2^w/k^(2*j+1)/k/k=2^w/k^(2*(j+1)+1):=by
    rw[bRN,bRN,show 2*(j+1)+1=2*j+1+1+1 by omega,bQV k (2*j+1+1),bQV k (2*j+1),bQZ]
   have e2:2^w/k^(2*(j+1)+1)<4^f:=by
    rw[<-e1,bRN];apply bRQ;have:4<=k*k:=bWK hk hk;rw[bQV 4 f,bQU (4^f)]at h;exact bMW h (bNJ _ this)
   have e3:fN k w (j+1)<=fN k w j:=by
    unfold fN;rw[<-e1];refine bMS (Nat.div_le_div_left (by omega) (by omega)) (Nat.div_le_div_right ?_);exact bMS (bUJ _ _) (bUJ _ _)
   have es:sum (fun i=>sg i*(fN k w i:Rat)) (j+1)=sum (fun i=>sg i*(fN k w i:Rat)) j+sg j*(fN k w j:Rat):=dA _ _;have ea:2^w/k^(2*j+1)/(2*j+1)=fN k w j:=rfl;unfold rounds;rw[if_neg h0,e1,ea,show 2*j+1+2=2*(j+1)+1 by omega]
   by_cases hc:(2*j+1)%4=1
   ·rw[if_pos hc];obtain⟨N,J,r1,r2,r3,r4⟩:=yY hk f (j+1) (p+fN k w j) m e2 (by omega) (fun _=>by omega);refine⟨N,J,r1,by omega,?_,r4⟩;have:sg j=1:=by unfold sg;rw[aT]
    rw[es,this]at r3;rw[bWI]at r3;grind
   ·rw[if_neg hc];have hj:=ho (by omega);obtain⟨N,J,r1,r2,r3,r4⟩:=yY hk f (j+1) p (m+fN k w j) e2 (by omega) (fun h=>by omega);refine⟨N,J,r1,by omega,?_,r4⟩;have:sg j=-1:=by unfold sg;rw[aX]
    rw[es,this]at r3;rw[bWI]at r3;grind
theorem Re{k:Nat}(hk:2<=k){w:Nat}(hw:w<=1000000):(atan k w).2<=w+2/\ab (((atan k w).1:Rat)-((2^w:Nat):Rat)*Uo k)<=((atan k w).2:Rat)+2:=by
 have h:2^w/k^(2*0+1)<4^(w+2):=by
  rw[Hj];exact bSL (bUJ _ _) (bSP (by omega) (by omega))
 obtain⟨N,J,r1,r2,r3,r4⟩:=yY (w:=w) hk (w+2) 0 0 0 h (bLW _) (fun h=>by omega);have e:atan k w=(N,J):=by
  unfold atan;rw[<-r1];simp
 rw[e];have hJ:J<=1048576:=by omega
 have:=Xz hk w hJ r4;refine⟨by dsimp only;omega,?_⟩;dsimp only;have e0:sum (fun i=>sg i*(fN k w i:Rat)) 0=0:=rfl;rw[e0]at r3;have e1:(N:Rat)=sum (fun i=>sg i*(fN k w i:Rat)) J:=by
  have z:((0:Nat):Rat)=0:=by norm_cast
  rw[z]at r3;grind
 rw[e1];exact this
end R
namespace W
open Go AI M
namespace xK
def E:=mE [(167,fA.aH),(171,cC.aH),(252,Ii.aH)] 55 [52] [(6,[0,1,6,7,20,21])] []
def aE:=bd f230
theorem aU:Nk E aE:=nk
def L6 a b (c:Nat) (d:List Int) e f g:=nO E f230 aE 6 [fW a,cZ b,yG 2 c 22 d,cZ e,bP f,bP g]
theorem start a b:aF E f230 aE [D.s (ints u64 a),D.s (sc (int u64 b))]=letI A:=(a.length:Int);letI B:=A+(1:Int);aO (a.length<=1099511627776) (aB (!fA.mR a) (some [D.s (sc (slice none 0 0)),D.s (sc (int i64 2))]) (if 0<=i64.wrap B/\i64.wrap B<=i64.wrap B/\i64.wrap B<=8796093022208 then xK.L6 a b (i64.wrap B).toNat (bNZ (i64.wrap B).toNat (0:Int)) 0 A 0 else none)):=eJ aU
theorem yV a b c d e f g:L6 a b c d e f g=letI C:=a.getD g.toNat 0*b%18446744073709551616+e+0;letI B:=(a.length:Int);letI A:=d.set B.toNat e;aB (decide (g<f)) (if 0<=g/\g<B then aO (0<=a.getD g.toNat 0/\a.getD g.toNat 0<(18446744073709551616:Int)/\0<=b/\b<18446744073709551616) (aO (0<=a.getD g.toNat 0*b%18446744073709551616/\0<=e/\(0:Int)<=(0:Int)/\(0:Int)<=(1:Int)) (if 0<=g/\g<(c:Int)then xK.L6 a b c (d.set g.toNat (C%18446744073709551616)) (u64.wrap (a.getD g.toNat 0*b/18446744073709551616+C/18446744073709551616)) f (i64.wrap (g+1))else none))else none) (if 0<=B/\B<(c:Int)then aO (M6.cE A/\A.length<=1099511627776) (some [D.s (ints u64 (bif cC.kU (M6.val A)then M6.dg (M6.val A)else [])),D.s (sc (int i64 (bif cC.kU (M6.val A)then(0:Int)else(5:Int))))])else none):=lJ aU
theorem L{a:List Int}{b:Nat}(ha:M6.cE a)(hl:a.length<=8192)(hb:b<18446744073709551616):∀(k i:Nat) (pre:List Int) (c:Nat),i+k=a.length->pre.length=i->M6.cE pre->c<18446744073709551616 ->
  M6.val pre+18446744073709551616^i*c=M6.val (a.take i)*b ->
  L6 a b (a.length+1) (pre ++ bNZ (k+1) 0) c a.length i=some [D.s (.ints .u64 (bif cC.kU (M6.val a*b)then M6.dg (M6.val a*b)else [])),D.s (.sc (.int .i64 (bif cC.kU (M6.val a*b)then 0 else 5)))]:=by
 intro k
 induction k with
 |zero =>
  intro i pre c hi hp hd hc hv;rw[M6.cG (by omega)]at hv;have hs:(pre ++ bNZ (0+1) 0).set a.length (c:Int)=pre ++ [(c:Int)]:=by
   have:=wK (pre:=pre) (i:=a.length) (k:=0) (by omega) (c:Int);simpa using this
  have hval:M6.val (pre ++ [(c:Int)])=M6.val a*b:=by
   rw[M6.lC,hp,bPS];exact hv
  have bAH:M6.cE (pre ++ [(c:Int)]):=M6.lD hd ⟨bVP _,by omega⟩;rw[yV,aI,if_pos ⟨by omega,by omega⟩,bPS,hs,gP ⟨bAH,by simp;omega⟩,hval]
 |succ k ih =>
  intro i pre c hi hp hd hc hv;have g:=ha.get i;obtain⟨x,hx⟩:=bQY g.1;have Sc:x<18446744073709551616:=by omega
  have bDM:x*b<=18446744073709551615*18446744073709551615:=bWK (by omega) (by omega);have e1:((x:Int)*(b:Int))=((x*b:Nat):Int):=by rw[bRU]
  have qA:M6.val (pre ++ [(((x*b%18446744073709551616+c)%18446744073709551616:Nat):Int)])+18446744073709551616^(i+1)*(x*b/18446744073709551616+(x*b%18446744073709551616+c)/18446744073709551616)=M6.val (a.take (i+1))*b:=by
   rw[M6.lC,hp,M6.cD,hx,bPS,bPS,Nat.add_mul,<-hv,bQV,bQZ (18446744073709551616^i) x b,bQZ (18446744073709551616^i) 18446744073709551616];have e:(x*b%18446744073709551616+c)%18446744073709551616+18446744073709551616*(x*b/18446744073709551616+(x*b%18446744073709551616+c)/18446744073709551616)=x*b+c:=by omega
   have e2:=congrArg (18446744073709551616^i*·) e;simp only[Nat.mul_add]at e2 ⊢;omega
  have bEO:x*b/18446744073709551616+(x*b%18446744073709551616+c)/18446744073709551616<18446744073709551616:=by omega
  have w1:u64.wrap ((x:Int)*(b:Int)/18446744073709551616+((x:Int)*(b:Int)%18446744073709551616+(c:Int)+0)/18446744073709551616)=((x*b/18446744073709551616+(x*b%18446744073709551616+c)/18446744073709551616:Nat):Int):=by
   rw[e1,wrap_u64];omega
  have w2:((x:Int)*(b:Int)%18446744073709551616+(c:Int)+0)%18446744073709551616=(((x*b%18446744073709551616+c)%18446744073709551616:Nat):Int):=by rw[e1];omega
  rw[yV,aN,if_pos ⟨by omega,by omega⟩,bPS,hx,gP ⟨by omega,by omega,by omega,by omega⟩,gP ⟨by rw[e1];omega,by omega,by omega,by omega⟩,if_pos ⟨by omega,by omega⟩,wK hp,w1,w2,wrap_i64 (n:=(i:Int)+1),show(i:Int)+1=((i+1:Nat):Int)from rfl];exact ih (i+1) _ _ (by omega) (by simp[hp]) (M6.lD hd ⟨bVP _,by omega⟩) bEO qA
def sp(a:List Int)(b:Int):Prop×List D:=(M6.cF a/\a.length<=8192/\0<=b/\b<18446744073709551616,[.s (.ints .u64 (bif cC.kU (M6.val a*b.toNat)then M6.dg (M6.val a*b.toNat)else [])),.s (.sc (.int .i64 (bif cC.kU (M6.val a*b.toNat)then 0 else 5)))])
theorem spec:fI E f230 aE (pI .u64) (pN .u64) sp:=by
 rintro a b ⟨ha,hl,h0,h1⟩;obtain⟨n,rfl⟩:=bQY h0;refine(start a n).trans ?_;have w:i64.wrap ((a.length:Int)+1)=((a.length+1:Nat):Int):=by rw[wrap_i64];rfl
 have:=L (b:=n) ha.iU hl (by omega) a.length 0 [] 0 (by omega) rfl M6.lU (by omega) (by simp[M6.val]);rw[gP,fA.lS ha hl,bNW,bF,w,if_pos ⟨by omega,by omega,by omega⟩,bPS];rw[bPY]at this;exact this
def aH:dG:=orc2 (pI .u64) (pN .u64) sp
theorem ok:OK 230 aH:=(eF E aE (aA fA.ok (aA cC.ok (aA Ii.ok aD))) func230).lA rfl spec
end xK
namespace Oh
def E:=mE [(126,sT.aH),(124,rH.aH),(117,mM.aH)] 26 [14,21] [] []
def aE:=bd f231
theorem aU:Nk E aE:=nk
theorem start a b:aF E f231 aE [D.s (ints u64 a),D.s (sc (int u64 b))]=letI B:=M6.dg b.toNat;letI C:=M6.val a+M6.val B;letI A:=M6.cF a/\M6.cF B/\a.length<=8192/\B.length<=8192;aO (0<=b/\b<18446744073709551616) (aO A (aO (0<=b/\b<18446744073709551616) (aO A (some [D.s (ints u64 (M6.dg (M6.val a-M6.val B))),D.s (ints u64 (bif cC.kU C then M6.dg C else []))])))):=eJ aU
theorem aNL{v n:Nat}(hv:v<18446744073709551616^8000)(hn:n<18446744073709551616):cC.kU (v+n)=true:=by
 unfold cC.kU;refine decide_eq_true (bMS (M6.cR (k:=8001) ?_) (by decide));rw[bQV];have h1:1<=18446744073709551616^8000:=bOV (by decide);generalize 18446744073709551616^8000=X at *;omega
def sp(a:List Int)(b:Int):Prop×List D:=(M6.cF a/\a.length<=8000/\0<=b/\b<18446744073709551616,[.s (.ints .u64 (M6.dg (M6.val a-b.toNat))),.s (.ints .u64 (M6.dg (M6.val a+b.toNat)))])
theorem spec:fI E f231 aE (pI .u64) (pN .u64) sp:=by
 rintro a b ⟨hn,hl,h0,h1⟩;have hb:b.toNat<18446744073709551616:=by omega
 have lb:(M6.dg b.toNat).length<=1:=M6.cR (k:=1) (by rw[Nat.pow_one];exact hb);refine(start a b).trans ?_;have lv:=M6.cO hn.iU;have ok:cC.kU (M6.val a+b.toNat)=true:=aNL (bMW lv (bOW (by decide) hl)) hb;rw[gP ⟨h0,h1⟩,gP ⟨hn,M6.aW _,by omega,by omega⟩,gP ⟨h0,h1⟩,gP ⟨hn,M6.aW _,by omega,by omega⟩,M6.bI,ok];rfl
def aH:dG:=orc2 (pI .u64) (pN .u64) sp
theorem ok:OK 231 aH:=(eF E aE (aA sT.ok (aA rH.ok (aA mM.ok aD))) func231).lA rfl spec
end Oh
namespace jU
def E:=mE [(229,dC.aH),(230,xK.aH),(126,sT.aH),(231,Oh.aH)] 45 [42] [] []
def aE:=bd f203
theorem aU:Nk E aE:=nk
theorem start a:aF E f203 aE [D.s (sc (int i64 a))]=letI K:=Arctan.atan (bZQ 5) a.toNat;letI I:=Arctan.atan (bZQ 239) a.toNat;letI F:=M6.dg K.fst;letI G:=bif cC.kU (M6.val F*16)then M6.dg (M6.val F*16)else [];letI C:=M6.dg I.fst;letI H:=bif cC.kU (M6.val C*4)then M6.dg (M6.val C*4)else [];letI B:=u64.wrap ((16:Int)*(↑((2:Nat)+(3:Nat)*K.snd):Int))+u64.wrap ((4:Int)*(↑((2:Nat)+(3:Nat)*I.snd):Int));letI A:=M6.dg (M6.val G-M6.val H);aO (((2:Int)<=(5:Int)/\(5:Int)<(4294967296:Int))/\0<=a/\a<=150000) (aO (((2:Int)<=(239:Int)/\(239:Int)<(4294967296:Int))/\0<=a/\a<=150000) (aO (M6.cF F/\F.length<=8192/\(0:Int)<=(16:Int)/\(16:Int)<(18446744073709551616:Int)) (aO (M6.cF C/\C.length<=8192/\(0:Int)<=(4:Int)/\(4:Int)<(18446744073709551616:Int)) (aO (M6.cF G/\M6.cF H/\G.length<=8192/\H.length<=8192) (aO (M6.cF A/\A.length<=8000/\0<=u64.wrap B/\u64.wrap B<18446744073709551616) (some [D.s (ints u64 (M6.dg (M6.val A-(u64.wrap B).toNat))),D.s (ints u64 (M6.dg (M6.val A+(u64.wrap B).toNat)))])))))):=eJ aU
def mX(w:Nat):Nat:=(Arctan.atan 5 w).1*16-(Arctan.atan 239 w).1*4
def mO(w:Nat):Nat:=16*(2+3*(Arctan.atan 5 w).2)+4*(2+3*(Arctan.atan 239 w).2)
theorem aLM(w:Nat):mO w<=60*w+160:=by
 have h1:=(Arctan.Bb 5 w).2;have h2:=(Arctan.Bb 239 w).2;unfold mO;omega
def sp(w:Int):Prop×List D:=(0<=w/\w<=150000,[.s (.ints .u64 (M6.dg (mX w.toNat-mO w.toNat))),.s (.ints .u64 (M6.dg (mX w.toNat+mO w.toNat)))])
theorem spec:gO E f203 aE (pN .i64) sp:=by
 rintro w ⟨h0,h1⟩;refine(start w).trans ?_;obtain⟨q,rfl⟩:=bQY h0;have a1:=Arctan.Bb 5 q;have a2:=Arctan.Bb 239 q;have hO:=aLM q;unfold sp;have k1:bZQ 5=5:=rfl;have k2:bZQ 239=239:=rfl;simp only[bPS,k1,k2,M6.bI];have eO:u64.wrap (u64.wrap (16*((2+3*(Arctan.atan 5 q).2:Nat):Int))+u64.wrap (4*((2+3*(Arctan.atan 239 q).2:Nat):Int)))=((mO q:Nat):Int):=by
  rw[wrap_u64 (n:=16*_),wrap_u64 (n:=4*_),wrap_u64];unfold mO;omega
 rw[eO];have hX:mX q<=(Arctan.atan 5 q).1*16:=bSU _ _;unfold mX at hX ⊢;generalize (Arctan.atan 5 q).1=a at *;generalize (Arctan.atan 239 q).1=b at *;have hp:2^(2*q+4+4)=16*2^(2*q+4):=by rw[bQX];omega
 have b1:a*16<2^(2*q+4+4):=by rw[hp];omega
 have b2:b*4<2^(2*q+4+4):=by rw[hp];omega
 have b3:a*16-b*4<2^(2*q+4+4):=by omega
 have l3:(M6.dg (a*16-b*4)).length<=8000:=eQ (k:=8000) (bMS (dU.2 b3) (by omega));rw[gP ⟨⟨by decide,by decide⟩,by omega,by omega⟩,gP ⟨⟨by decide,by decide⟩,by omega,by omega⟩,gP ⟨M6.aW _,dC.jW a1.1 (by omega),by decide,by decide⟩,gP ⟨M6.aW _,dC.jW a2.1 (by omega),by decide,by decide⟩,
  dC.aLH b1 (by omega),dC.aLH b2 (by omega),cond_true,cond_true]
 simp only[M6.bI,bPS];rw[gP ⟨M6.aW _,M6.aW _,dC.jW b1 (by omega),dC.jW b2 (by omega)⟩,gP ⟨M6.aW _,l3,by omega,by omega⟩]
open R in
theorem num {w:Nat} (bFE:40<=w) (hw:w<=1000000):R.ab ((mX w:Rat)-((2^w:Nat):Rat)*R.pi)<=(mO w:Rat):=by
 obtain⟨j1,e1⟩:=R.Re (k:=5) (by decide) hw;obtain⟨j2,e2⟩:=R.Re (k:=239) (by decide) hw;have hp:=R.sA.1;have hW:(1099511627776:Rat)<=((2^w:Nat):Rat):=by
  have:2^40<=2^w:=bOW (by decide) bFE;exact_mod_cast this
 have hO:(mO w:Rat)=16*(2+3*((Arctan.atan 5 w).2:Rat))+4*(2+3*((Arctan.atan 239 w).2:Rat)):=by
  unfold mO
  push_cast
  rfl
 have hJ1:((Arctan.atan 5 w).2:Rat)<=1000002:=by exact_mod_cast bMS j1 (by omega)
 have hJ2:((Arctan.atan 239 w).2:Rat)<=1000002:=by exact_mod_cast bMS j2 (by omega)
 have aAO:(0:Rat)<=((Arctan.atan 5 w).2:Rat):=by exact_mod_cast bRZ _
 have aTQ:(0:Rat)<=((Arctan.atan 239 w).2:Rat):=by exact_mod_cast bRZ _
 rw[hO];clear hO;have h3:0<=R.pi-3:=by grind
 have hm:=R.aG (bRB (by decide:(0:Rat)<=1099511627776) hW) h3;have aTH:((2^w:Nat):Rat)*R.pi=16*(((2^w:Nat):Rat)*R.Uo 5)-4*(((2^w:Nat):Rat)*R.Uo 239):=by
  rw[show R.pi=16*R.Uo 5-4*R.Uo 239 from rfl];grind
 have hm2:3*((2^w:Nat):Rat)<=((2^w:Nat):Rat)*R.pi:=by grind
 rw[R.dY]at e1 e2 ⊢;have bKB:(mX w:Rat)=((mX w:Nat):Rat):=rfl;unfold mX;generalize ((2^w:Nat):Rat)*R.pi=WP at *;generalize ((2^w:Nat):Rat)*R.Uo 5=W5 at *;generalize ((2^w:Nat):Rat)*R.Uo 239=W2 at *;generalize ((2^w:Nat):Rat)=W at *;clear hm h3 hp bKB;generalize ((Arctan.atan 5 w).2:Rat)=J1 at *;generalize ((Arctan.atan 239 w).2:Rat)=J2 at *;generalize (Arctan.atan 5 w).1=a at *;generalize (Arctan.atan 239 w).1=b at *;have hle:b*4<=a*16:=by
  have:(b:Rat)*4<=(a:Rat)*16:=by
   obtain⟨e3,e4⟩:=e1;obtain⟨e5,e6⟩:=e2;grind
  exact_mod_cast this
 have hX:((a*16-b*4:Nat):Rat)=(a:Rat)*16-(b:Rat)*4:=by
  have e:(a*16-b*4)+b*4=a*16:=by omega
  have e':((a*16-b*4:Nat):Rat)+(b:Rat)*4=(a:Rat)*16:=by exact_mod_cast e
  grind
 rw[hX];obtain⟨e3,e4⟩:=e1;obtain⟨e5,e6⟩:=e2;constructor <;> grind
def aH:dG:=orc1 (pN .i64) sp
theorem ok:OK 203 aH:=(eF E aE (aA dC.ok (aA xK.ok (aA sT.ok (aA Oh.ok aD)))) func203).nN rfl spec
end jU
namespace uG
def E:=mE [(203,jU.aH),(115,Bm.aH),(125,De.aH)] 39 [19,25] [(5,[0,4]),(3,[0])] [3]
def aE:=bd f162
theorem aU:Nk E aE:=nk
def J3 a:=kV E f162 aE 3 [bP a]
def L5 a b:=nO E f162 aE 5 [bP a,bP b]
theorem start a:aF E f162 aE [D.s (sc (int i64 a))]=letI A:=some [D.s (sc (slice none 0 0)),D.s (sc (int i64 1))];aB (decide (a<1)) A (aB (decide (70000<a)) A (uG.J3 a)):=eJ aU
theorem fR a:J3 a=uG.L5 a 48:=cJ aU
theorem Ya a b:L5 a b=letI G:=i64.wrap (a+b);letI B:=M6.dg (jU.mX G.toNat+jU.mO G.toNat);letI F:=M6.dg (M6.val B/(2:Nat)^b.toNat);letI A:=M6.dg (jU.mX G.toNat-jU.mO G.toNat);letI C:=M6.dg (M6.val A/(2:Nat)^b.toNat);aO (0<=i64.wrap (a+b)/\i64.wrap (a+b)<=150000) (aO (M6.cF A/\A.length<=8192/\0<=b/\b<4611686018427387904) (aO (M6.cF B/\B.length<=8192/\0<=b/\b<4611686018427387904) (aO (M6.cE C/\M6.cE F/\C.length<=1099511627776/\F.length<=1099511627776) (aB (mV (M6.val C) (M6.val F)==0) (some [D.s (ints u64 C),D.s (sc (int i64 0))]) (uG.L5 a (i64.wrap (b*2))))))):=lJ aU
def sp(p:Int):Prop×List D:=(1<=p/\p<=70000,[.s (.ints .u64 (M6.dg (R.pF p.toNat))),.s (.sc (.int .i64 0))])
theorem aSK(w:Nat):jU.mX w<2^(2*w+8):=by
 have a1:=Arctan.Bb 5 w;have hp:2^(2*w+8)=16*2^(2*w+4):=by rw[show 2*w+8=2*w+4+4 by omega,bQX];omega
 have:jU.mX w<=(Arctan.atan 5 w).1*16:=bSU _ _;omega
theorem spec:gO E f162 aE (pN .i64) sp:=by
 rintro p ⟨h0,h1⟩;refine(start p).trans ?_;obtain⟨q,rfl⟩:=bQY (show 0<=p by omega);have hX:=jU.num (w:=q+48) (by omega) (by omega);have hO:=jU.aLM (q+48);have lX:=aSK (q+48);have bKR:2*jU.mO (q+48)<=2^(48-24):=by
  have:2^(48-24)=16777216:=by decide
  omega
 obtain⟨o1,o2,o3⟩:=R.aRZ (q:=q) (g:=48) (by omega) (by omega) bKR hX;have ew:i64.wrap ((q:Int)+48)=((q+48:Nat):Int):=by rw[wrap_i64];omega
 unfold sp;rw[aI,aI,fR,Ya,ew,bPS,bPS];have hp:2^(2*(q+48)+9)=2*2^(2*(q+48)+8):=by rw[bQV];omega
 have bFE:2^40<=2^(2*(q+48)+8):=fQ;have l1:=dC.jW (n:=jU.mX (q+48)-jU.mO (q+48)) (k:=2*(q+48)+8) (by omega) (by omega);have l2:=dC.jW (n:=jU.mX (q+48)+jU.mO (q+48)) (k:=2*(q+48)+9) (by omega) (by omega);rw[gP ⟨by omega,by omega⟩,gP ⟨M6.aW _,l1,by decide,by decide⟩,gP ⟨M6.aW _,l2,by decide,by decide⟩];simp only[M6.bI,show bZQ 48=48 from rfl,o2,o3];have l3:(M6.dg (R.pF q)).length<=8192:=by
  rw[<-o2];exact dC.jW (k:=2*(q+48)+8) (bSL (bUJ _ _) (by omega)) (by omega)
 rw[gP ⟨M6.iO _,M6.iO _,by omega,by omega⟩,cN (by unfold mV;simp)]
def aH:dG:=orc1 (pN .i64) sp
theorem ok:OK 162 aH:=(eF E aE (aA jU.ok (aA Bm.ok (aA De.ok aD))) func162).nN rfl spec
end uG
namespace aGY
def bKX(p:Int×Int)(n:Int):Int:=if 0<=p.2+n then p.1*((2^(p.2+n).toNat:Nat):Int)else p.1/((2^(-p.2-n).toNat:Nat):Int)
end aGY
namespace aVT
def bBU(w:Int)(neg:Bool)(u v:Nat):Nat:=u/v+bif oB.nW w neg (decide (u/v%2=1)) (decide (u%v≠0)) (mV (u%v) (v-u%v))then 1 else 0
end aVT
namespace aGX
def aXN(p:Int×Int):Int:=if 0>p.2+(bl p.1.natAbs:Nat)then 0 else p.2+(bl p.1.natAbs:Nat)
def rG(p:Int×Int)(w:Int):Int:=w+aXN p+8
def rF(p:Int×Int)(w:Int):Nat:=R.pF (rG p w).toNat
def rX(p:Int×Int)(w:Int):Int:=aGY.bKX p (rG p w)*2
def nK(X:Int)(f:Nat):Int:=zs (isNeg X) (aVT.bBU 2 false X.natAbs f)
def rK(p:Int×Int)(w:Int):Int:=nK (rX p w) (rF p w)
def rR(p:Int×Int)(w:Int):Int:=rX p w-rK p w*(rF p w:Nat)
def rO(p:Int×Int)(w:Int):Int:=((rK p w).natAbs:Nat)+3
def rM(p:Int×Int)(w:Int):Int:=(rR p w-rO p w)/((2^(rG p w-w+1).toNat:Nat):Int)
theorem aKB{n k m:Nat}(h:bl n<=m):bl (n*2^k)<=m+k:=dU.2 (by rw[bQX];exact Nat.mul_lt_mul_of_pos_right (dU.1 h) (bOV (by decide)))
end aGX
namespace aKK
def E:=mE [(112,gG.aH),(165,Db.aH),(126,sT.aH),(123,xL.aH)] 60 [28,50,57] [(3,[2,3,4])] [3]
def aE:=bd f131
theorem aU:Nk E aE:=nk
def J3 a b c d e:=kV E f131 aE 3 [cQ 0 27 [bW a,dZ b],cQ 1 27 [bW c,dZ d],cQ 2 27 [bW e,sc (slice none 0 0)]]
theorem start a b c d:aF E f131 aE [D.agg [sc (bool a),ints u64 b],D.agg [sc (bool c),ints u64 d]]=letI A:=some [D.agg [sc (bool false),sc (slice none 0 0)],D.s (sc (int i64 2))];aO (b.length<=1099511627776) (aB (!gG.qL (a,b)) A (aO (d.length<=1099511627776) (aB (!gG.qL (c,d)) A (aKK.J3 a b c d false)))):=eJ aU
theorem fR a b c d e:J3 a b c d e=letI A:=M6.dg (M6.val b%M6.val d);letI F:=M6.dg (M6.val d-M6.val A);letI C:=bif (if M6.val d<M6.val A then(3:Int)else(0:Int))==0 then zs c (M6.val F)else(0:Int);letI B:=aO (M6.cF A/\A.length<=1099511627776) (some [D.agg [sc (bool (isNeg (zs c (M6.val A)))),ints u64 (M6.dg (zs c (M6.val A)).natAbs)],D.s (sc (int i64 0))]);aB ((d.length:Int)==(0:Int)) (some [D.agg [sc (bool false),sc (slice none 0 0)],D.s (sc (int i64 4))]) (aO (M6.cF b/\b.length<=8192/\M6.cF d/\1<=d.length/\d.length<=8192) (aB (a !=c) (aB (decide (0<(A.length:Int))) (aO (M6.cF d/\M6.cF A/\d.length<=8192/\A.length<=8192) (aO (M6.cF F/\F.length<=1099511627776) (some [D.agg [sc (bool (isNeg C)),ints u64 (M6.dg C.natAbs)],D.s (sc (int i64 (if M6.val d<M6.val A then(3:Int)else(0:Int))))]))) B) B)):=cJ aU
def sp(x y:Bool×List Int):Prop×List D:=(jY x/\jY y/\y.1=false/\1<=y.2.length,[wD (wv x%wv y),.s (.sc (.int .i64 0))])
theorem spec:fI E f131 aE vY vY sp:=by
 rintro x y ⟨hx,hy,hn,h1⟩;refine(start x.1 x.2 y.1 y.2).trans ?_;have l1:=hx.len;have l2:=hy.len;have f1:=gG.nB hx;have f2:=gG.nB hy;have b2:=hy.bl;obtain⟨p,a⟩:=x;obtain⟨q,b⟩:=y;have n1:M6.cF a:=hx.1;have n2:M6.cF b:=hy.1
 try dsimp only at *
 subst hn;unfold sp
 try dsimp only
 have hz:M6.val b≠0:=fun h=>by have:=(M6.cS n2).2 h;omega
 have hm:=bOE (M6.val a) (show 0<M6.val b by omega);have hl:=eQ (n:=M6.val a%M6.val b) (k:=8192) (bMS (gN (Nat.le_of_lt hm)) b2);have aWP:=eQ (n:=M6.val b-M6.val a%M6.val b) (k:=8192) (bMS (gN (bSU _ _)) b2);have hb:wv (false,b)=(M6.val b:Int):=Bp (x:=(false,b)) rfl;have zf:∀n:Nat,zs false n=(n:Int):=fun n=>rfl
 rw[gP,f1,bNW,bF,gP,f2,bNW,bF,fR,bV,gP ⟨n1,l1,n2,h1,l2⟩];simp only[M6.bI];cases p with
 |false =>
  have ha:wv (false,a)=(M6.val a:Int):=Bp (x:=(false,a)) rfl;rw[show(false !=false)=false from rfl,bF,gP ⟨M6.aW _,by omega⟩,ha,hb,<-Int.natCast_emod];rfl
 |true =>
  have ha:wv (true,a)=-(M6.val a:Int):=Lj (x:=(true,a)) rfl;rw[show(true !=false)=true from rfl,bT]
  by_cases hr:M6.val a%M6.val b=0
  ·have e0:-(M6.val a:Int)%(M6.val b:Int)=0:=by
    have aJC:=bRC (M6.val a) (M6.val b);rw[hr,bMX]at aJC;rw[<-aJC,bRU,<-Int.mul_neg];exact Int.mul_emod_right _ _
   rw[hr,M6.bJ,aI (by simp),gP ⟨M6.Fc,by simp⟩,ha,hb,e0];rfl
  ·have hd:(M6.dg (M6.val a%M6.val b)).length≠0:=fun h=>hr (M6.gI.1 h)
   have e0:-(M6.val a:Int)%(M6.val b:Int)=((M6.val b-M6.val a%M6.val b:Nat):Int):=by
    have aJC:=bRC (M6.val a) (M6.val b);have e1:-(M6.val a:Int)=((M6.val b-M6.val a%M6.val b:Nat):Int)+(M6.val b:Int)*(-(((M6.val a/M6.val b+1:Nat)):Int)):=by
     have e2:((M6.val b*(M6.val a/M6.val b)+M6.val a%M6.val b:Nat):Int)=(M6.val a:Int):=by rw[aJC]
     rw[bZT,bRU]at e2;rw[Int.mul_neg,bZT,Int.mul_add];generalize M6.val a%M6.val b=r at *;generalize (M6.val b:Int)*((M6.val a/M6.val b:Nat):Int)=z at *;omega
    rw[e1,Int.add_mul_emod_self_left];exact Int.emod_eq_of_lt (by omega) (by omega)
   rw[aN,gP ⟨n2,M6.aW _,l2,hl⟩,gP ⟨M6.aW _,by omega⟩,aX,ha,hb,e0];rfl
def aH:dG:=orc2 vY vY sp
theorem ok:OK 131 aH:=(eF E aE (aA gG.ok (aA Db.ok (aA sT.ok (aA xL.ok aD)))) func131).lA rfl spec
end aKK
namespace zS
def E:=mE [(112,gG.aH)] 40 [] [(8,[1,4])] [8]
def aE:=bd f132
theorem aU:Nk E aE:=nk
def J8 a b c:=kV E f132 aE 8 [cQ 0 27 [bW a,dZ b],cZ c]
theorem start a b:aF E f132 aE [D.agg [sc (bool a),ints u64 b]]=letI F:=zS.J8 a b (b.getD 0 0);letI C:=(b.length:Int);letI B:=sc (int i64 0);letI A:=some [D.s B,D.s (sc (int i64 5))];aO (b.length<=1099511627776) (aB (!gG.qL (a,b)) (some [D.s B,D.s (sc (int i64 2))]) (aB (C==(0:Int)) (some [D.s B,D.s B]) (if(0:Int)<=(0:Int)/\0<C then aB (decide (1<C)) A (aB (decide (9223372036854775808<b.getD 0 0)) A (aB (b.getD 0 0==(9223372036854775808:Int)) (aB (!a) A F) F))else none))):=eJ aU
theorem sW a b c:J8 a b c=aB a (some [D.s (sc (int i64 (i64.wrap (u64.wrap ((0:Int)-c))))),D.s (sc (int i64 0))]) (some [D.s (sc (int i64 (i64.wrap c))),D.s (sc (int i64 0))]):=cJ aU
def uM(z:Int):Bool:=decide (-9223372036854775808<=z)&&decide (z<9223372036854775808)
def sp(x:Bool×List Int):Prop×List D:=(jY x,[.s (.sc (.int .i64 (bif uM (wv x)then wv x else 0))),.s (.sc (.int .i64 (bif uM (wv x)then 0 else 5)))])
theorem spec:gO E f132 aE vY sp:=by
 intro x h;have h:jY x:=h;refine(start x.1 x.2).trans ?_;obtain⟨b,a⟩:=x;have hl:a.length<=8192:=h.len;have h1:M6.cF a:=h.1;have g:=h1.iU.get 0;have hf:=gG.nB h
 try dsimp only
 unfold sp
 try dsimp only
 rw[gP,hf,bNW,bF];have yes:∀z:Int,-9223372036854775808<=z->z<9223372036854775808->uM z=true:=fun z h h'=>by unfold uM;rw[decide_eq_true h,decide_eq_true h'];rfl
 have no:∀z:Int,(z < -9223372036854775808\/9223372036854775808<=z)->uM z=false:=fun z h=>by
  unfold uM;rcases h with h |h
  ·rw[decide_eq_false (by omega),bRF]
  ·rw[decide_eq_false (show ¬z<_ by omega),bRI]
 by_cases hz:a.length=0
 ·have hv:=(M6.cS h1).1 hz;have:wv (b,a)=0:=by
   have:=iW (b,a);rw[show M6.val (b,a).2=0 from hv]at this;omega
  rw[cN,this];rfl
 ·rw[bV,if_pos ⟨by omega,by omega⟩];have aYQ:M6.val a≠0:=fun h=>hz ((M6.cS h1).2 h)
  have aEB:=iW (b,a)
  try dsimp only at aEB
  by_cases h2:1<a.length
  ·have yP:18446744073709551616<=M6.val a:=by
    have:=M6.xZ (n:=M6.val a) (k:=1) (by rw[aCQ h1];exact h2);omega
   rw[aN,no _ (by omega)];rfl
  ·have hv:M6.val a=(a.getD 0 0).toNat:=by
    have:=M6.cD (a:=a) 0;rw[M6.cG (by omega)]at this;simpa [M6.val] using this
   rw[aI];generalize a.getD 0 0=w at *
   by_cases h3:9223372036854775808<w
   ·rw[aN h3,no _ (by omega)];rfl
   ·rw[aI h3,sW];cases b with
    |true =>
     have hw:wv (true,a)=-(M6.val a:Int):=Lj (x:=(true,a)) rfl;have e1:i64.wrap (u64.wrap (0-w))=wv (true,a):=by rw[hw,eE,Dg];omega
     rw[yes _ (by omega) (by omega),bNW,bF,bT,e1];unfold aB;cases (w==9223372036854775808) <;> rfl
    |false =>
     have hw:wv (false,a)=(M6.val a:Int):=Bp (x:=(false,a)) rfl;rw[bXU,bT,bF]
     by_cases h4:w=9223372036854775808
     ·rw[cN h4,no _ (by omega)];rfl
     ·rw[bV h4,yes _ (by omega) (by omega),wrap_i64];rw[show w=wv (false,a)from by omega];rfl
def aH:dG:=orc1 vY sp
theorem ok:OK 132 aH:=(eF E aE (aA gG.ok aD) func132).nN rfl spec
end zS
namespace rL
def aRD(b:Int):Int×Int:=aL (bM.lZ 64 b) (bM.mA 64 b)
def cW(p:Int):Int:=if 72>p+8 then 72 else p+8
def cM(x:Int×Int)(p:Int):Int:=aGX.rM x (cW p)/((2^(cW p-(p+8)).toNat:Nat):Int)
def bFI(x:Int×Int)(p:Int):Int×Int:=bif Vj.bCU x then x else aL (cM x p) (-(p+8))
def bFJ(x:Int×Int)(p:Int):Int×Int:=bif Vj.bCU x then x else aL (cM x p+4) (-(p+8))
end rL
end W
namespace M
open Go AI W
theorem aBE{q:Rat}{a b:Int}(h1:R.pz a<=q)(h2:q<R.pz (a+1))(h3:R.pz b<=q)(h4:q<R.pz (b+1)):a=b:=by
 have:R.pz a<R.pz (b+1):=by grind
 have:=R.xT.1 this;have:R.pz b<R.pz (a+1):=by grind
 have:=R.xT.1 this;omega
theorem aMS{p q:Int×Int}(hp:p.1≠0)(h:R.qz p=R.qz q):bC p=bC q:=by
 have hq:q.1≠0:=Kl (by rw[<-h];exact aLB hp);obtain⟨a,b⟩:=rU hp;obtain⟨c,d⟩:=rU hq;rw[h]at a b;exact aBE a b c d
structure aQI(z e:Int):Prop where
 z0:z≠0
 z1:z.natAbs<9007199254740992
 e0:-1074<=e
 e1:e<=971
theorem aKH(z:Int):R.ab (z:Rat)=(z.natAbs:Rat):=by
 unfold R.ab
 by_cases hz:0<=z
 ·rw[if_pos (by exact_mod_cast hz),<-bWO];congr 1;omega
 ·rw[if_neg (by intro hc;exact hz (by exact_mod_cast hc)),<-bWO,<-bWX];congr 1;omega
structure aVZ(x:Int×Int):Prop where
 qJ:iS x
 ne:x.1≠0
 bl:bl x.1.natAbs<=53
 t0:-1074<=bC x
 t1:bC x<=1023
 e0:-1074<=x.2
 e1:x.2<=1023
 fit:R.Fit (R.qz x)
 aVL:¬R.ab (R.qz x)<=3/4->-53<=x.2/\R.bCH (R.qz x)
theorem bBV{z e:Int}(h:aQI z e):aVZ (aL z e):=by
 obtain⟨z0,z1,e0,e1⟩:=h;have bz:bl z.natAbs<=53:=dU.2 (by have:(2:Nat)^53=9007199254740992:=rfl;omega);have b0:=qE (n:=z.natAbs) (by omega);have q:=mB z e;have q':R.qz (aL z e)=R.qz (z,e):=q;have ne:(aL z e).1≠0:=fun hz=>z0 (dO.1 hz)
 have tt:=aMS ne q';have t':bC (z,e)=e+(bl z.natAbs:Nat)-1:=rfl;have ge:=kY (e:=e) z0;have bb:=oT z e;have b1:=qE (n:=(aL z e).1.natAbs) (by omega);have te:bC (aL z e)=(aL z e).2+(bl (aL z e).1.natAbs:Nat)-1:=rfl;have qJ:iS (aL z e):=eZ (fJ (by omega) (by omega)) (by omega);have num:¬R.ab (R.qz (aL z e))<=3/4->-53<=e/\R.bCH (R.qz (aL z e)):=by
  intro hb;have he:-53<=e:=by
   refine Int.not_lt.1 fun hn=>hb ?_
   have h2:=(rU (p:=(z,e)) z0).2;have:R.pz (bC (z,e)+1)<=R.pz (-1):=R.dM (by omega);have p1:R.pz (-1)*2=1:=by
    have:=R.uN 0;rw[R.fC]at this;exact this
   rw[q'];grind
  refine⟨he,(z.natAbs:Int),e,by omega,by omega,he,e1,?_⟩;rw[q',bWO,<-aKH];show(z:Rat)*R.pz e=_\/(z:Rat)*R.pz e=_;unfold R.ab;split
  ·left;rfl
  ·right;grind
 refine⟨qJ,ne,by omega,by omega,by omega,by omega,by omega,?_,fun hb=>⟨by have:=(num hb).1;omega,(num hb).2⟩⟩
 by_cases c:R.ab (R.qz (aL z e))<=3/4
 ·exact Or.inr c
 ·exact Or.inl (num c).2
end M
namespace AI
open Go Go.RowKit
def t2{β:Type}(x y:β):Nat->β
 |0=>x
 |_+1=>y
def t4{β:Type}(x y z u:β):Nat->β
 |0=>x
 |1=>y
 |2=>z
 |_+3=>u
def bDD{β:Type}(p:SPar β)(d:β):kN (β) where
 put x:=.rows p.n 1 fun _=>p.put x
 get
  | .rows sz n g=>if n=1/\sz=p.n then(p.get (g 0)).bind fun x=>some x else none
  |_=>none
 le:=by
  intro dd x h
  match dd,h with
  | .rows sz n g,h =>
   dsimp only at h;split at h
   ·rename_i hc;obtain⟨rfl,hc⟩:=hc;simp only[bOD]at h;obtain⟨y0,h0,h⟩:=h;cases h;have wW:allB 1 (fun i=>(p.get (g i)).isSome)=true:=by simp[allB,h0]
    have e:=(pR p d).le (d:=.rows sz 1 g) (x:=(1,fun i=>(p.get (g i)).getD d)) (if_pos ⟨hc,wW⟩);rintro Y w v hv;obtain⟨A,c,e1,e2,e3⟩:=e Y w v hv;refine⟨A,c,e1,e2,fun i hi=>?_⟩;have e4:=e3 i hi;obtain rfl:i=0:=by omega
    dsimp only at e4;rw[h0]at e4;exact e4
   ·cases h
def aAJ{β:Type}(p:SPar β)(d:β):kN (β×β) where
 put x:=.rows p.n 2 fun i=>p.put (t2 x.1 x.2 i)
 get
  | .rows sz n g=>if n=2/\sz=p.n then(p.get (g 0)).bind fun x=>(p.get (g 1)).bind fun y=>some (x,y)else none
  |_=>none
 le:=by
  intro dd x h
  match dd,h with
  | .rows sz n g,h =>
   dsimp only at h;split at h
   ·rename_i hc;obtain⟨rfl,hc⟩:=hc;simp only[bOD]at h;obtain⟨y0,h0,y1,h1,h⟩:=h;cases h;have wW:allB 2 (fun i=>(p.get (g i)).isSome)=true:=by simp[allB,h0,h1]
    have e:=(pR p d).le (d:=.rows sz 2 g) (x:=(2,fun i=>(p.get (g i)).getD d)) (if_pos ⟨hc,wW⟩);rintro Y w v hv;obtain⟨A,c,e1,e2,e3⟩:=e Y w v hv;refine⟨A,c,e1,e2,fun i hi=>?_⟩;have e4:=e3 i hi;obtain rfl |rfl:i=0\/i=1:=by omega
    ·dsimp only at e4;rw[h0]at e4;exact e4
    ·dsimp only at e4;rw[h1]at e4;exact e4
   ·cases h
def aLF{β:Type}(p:SPar β)(d:β):kN (β×β×β×β) where
 put x:=.rows p.n 4 fun i=>p.put (t4 x.1 x.2.1 x.2.2.1 x.2.2.2 i)
 get
  | .rows sz n g=>if n=4/\sz=p.n then(p.get (g 0)).bind fun x=>(p.get (g 1)).bind fun y=>(p.get (g 2)).bind fun z=>(p.get (g 3)).bind fun u=>some (x,y,z,u)else none
  |_=>none
 le:=by
  intro dd x h
  match dd,h with
  | .rows sz n g,h =>
   dsimp only at h;split at h
   ·rename_i hc;obtain⟨rfl,hc⟩:=hc;simp only[bOD]at h;obtain⟨y0,h0,y1,h1,y2,h2,y3,h3,h⟩:=h;cases h;have wW:allB 4 (fun i=>(p.get (g i)).isSome)=true:=by simp[allB,h0,h1,h2,h3]
    have e:=(pR p d).le (d:=.rows sz 4 g) (x:=(4,fun i=>(p.get (g i)).getD d)) (if_pos ⟨hc,wW⟩);rintro Y w v hv;obtain⟨A,c,e1,e2,e3⟩:=e Y w v hv;refine⟨A,c,e1,e2,fun i hi=>?_⟩;have e4:=e3 i hi;obtain rfl |rfl |rfl |rfl:i=0\/i=1\/i=2\/i=3:=by omega
    ·dsimp only at e4;rw[h0]at e4;exact e4
    ·dsimp only at e4;rw[h1]at e4;exact e4
    ·dsimp only at e4;rw[h2]at e4;exact e4
    ·dsimp only at e4;rw[h3]at e4;exact e4
   ·cases h
end AI
namespace W
open Go AI M
namespace xG
def E:=mE [] 9 [] [] []
def aE:=bd f98
theorem aU:Nk E aE:=nk
theorem start a:aF E f98 aE [D.s (sc (int i64 a))]=aB (decide (1<=a)) (some [D.s (sc (bool (decide (a<=70000))))]) (some [D.s (sc (bool false))]):=eJ aU
def sp(p:Int):Prop×List D:=(True,[.s (.sc (.bool (decide (1<=p)&&decide (p<=70000))))])
theorem spec:gO E f98 aE (pN .i64) sp:=by
 intro p h;refine(start p).trans ?_;unfold sp aB;cases (decide ((1:Int)<=p)) <;> rfl
def aH:dG:=orc1 (pN .i64) sp
theorem ok:OK 98 aH:=(eF E aE aD func98).nN rfl spec
end xG
namespace rE
def E:=mE [(98,xG.aH),(45,pO.aH)] 20 [] [(4,[10,11,12])] []
def aE:=bd f40
theorem aU:Nk E aE:=nk
def L4(a:Nat)(b:Nat->Bool)(c:Nat->List Int)(d:Nat->Int)(e:Nat->Bool)(f:Nat->List Int)(g:Nat->Int) x7 h:=nO E f40 aE 4 [(A.v (V.one (L.rows 6 a fun i=>[sc (bool (b i)),ints u64 (c i),sc (int i64 (d i)),sc (bool (e i)),ints u64 (f i),sc (int i64 (g i))])),none),bP x7,bP h]
theorem start p (a:qN) (b:qN):aF E f40 aE [D.s (sc (int i64 p)),D.rows 6 2 fun i=>[sc (bool (t2 a b i).fst),ints u64 (t2 a b i).snd.fst,sc (int i64 (t2 a b i).snd.snd.fst),sc (bool (t2 a b i).snd.snd.snd.fst),ints u64 (t2 a b i).snd.snd.snd.snd.fst,sc (int i64 (t2 a b i).snd.snd.snd.snd.snd)]]=aO True (aB (!(decide (1<=p)&&decide (p<=70000))) (some [D.s (sc (int i64 1))]) (rE.L4 2 (fun i=>(t2 a b i).fst) (fun i=>(t2 a b i).snd.fst) (fun i=>(t2 a b i).snd.snd.fst) (fun i=>(t2 a b i).snd.snd.snd.fst) (fun i=>(t2 a b i).snd.snd.snd.snd.fst) (fun i=>(t2 a b i).snd.snd.snd.snd.snd) 2 0)):=eJ aU
theorem kS a b c d e f g h j:L4 a b c d e f g h j=aB (decide (j<h)) (if 0<=j/\j<(a:Int)then aO (dP (b j.toNat,c j.toNat,d j.toNat,e j.toNat,f j.toNat,g j.toNat)) (rE.L4 a (fun i=>b i) (fun i=>c i) (fun i=>d i) (fun i=>e i) (fun i=>f i) (fun i=>g i) h (i64.wrap (j+1)))else none) (some [D.s (sc (int i64 0))]):=lJ aU
def sp(p:Int)(a:qN×qN):Prop×List D:=(dP a.1/\dP a.2,[.s (.sc (.int .i64 (if 1<=p/\p<=70000 then 0 else 1)))])
theorem L(n:Nat)(f:Nat->qN)(hn:n<=1000)(hf:∀i,i<n->dP (f i)):∀d k:Nat,k+d=n->L4 n (fun i=>(f i).1) (fun i=>(f i).2.1) (fun i=>(f i).2.2.1) (fun i=>(f i).2.2.2.1) (fun i=>(f i).2.2.2.2.1) (fun i=>(f i).2.2.2.2.2) (n:Int) (k:Int)=some [D.s (.sc (.int .i64 0))]
 |0,k,h=>by rw[kS,aI]
 |d+1,k,h=>by
  have e:i64.wrap ((k:Int)+1)=((k+1:Nat):Int):=by rw[wrap_i64];omega
  rw[kS,aN,aT,bPS,gP (hf k (by omega)),e];exact L n f hn hf d (k+1) (by omega)
theorem spec:fI E f40 aE (pN .i64) (aAJ (.pair sB (.pair (sI .u64) (.pair (sN .i64) (.pair sB (.pair (sI .u64) (sN .i64)))))) (false,[],0,false,[],0)) sp:=by
 intro p a h;have hf:∀i,i<2->dP (t2 a.1 a.2 i):=fun i hi=>by
  obtain rfl |rfl:i=0\/i=1:=by omega
  ·exact h.1
  ·exact h.2
 refine(start p a.1 a.2).trans ((gP trivial).trans ?_);unfold sp
 by_cases hp:1<=p/\p<=70000
 ·rw[if_pos hp,decide_eq_true hp.1,decide_eq_true hp.2];exact L 2 (fun i=>t2 a.1 a.2 i) (by decide) hf 2 0 (by omega)
 ·rw[if_neg hp];have:(decide (1<=p)&&decide (p<=70000))=false:=by
   rw[bYK,decide_eq_false_iff_not,decide_eq_false_iff_not];omega
  rw[this];rfl
def aH:dG:=orc2 (pN .i64) (aAJ (.pair sB (.pair (sI .u64) (.pair (sN .i64) (.pair sB (.pair (sI .u64) (sN .i64)))))) (false,[],0,false,[],0)) sp
theorem ok:OK 40 aH:=(eF E aE (aA xG.ok (aA pO.ok aD)) func40).lA rfl spec
end rE
namespace zN
def E:=mE [(62,zO.aH)] 6 [5] [] []
def aE:=bd f49
theorem aU:Nk E aE:=nk
theorem start a b c:aF E f49 aE [D.agg [sc (bool a),ints u64 b,sc (int i64 c)]]=aO (aJ (a,b,c)/\aJ (false,[],(0:Int))) (some [D.s (sc (int i64 (bZ (dv (a,b,c)) (dv (false,[],Int.ofNat (nat_lit 0))))))]):=eJ aU
def sp(x:dR):Prop×List D:=(aJ x,[.s (.sc (.int .i64 (bZ (dv x) (0,0))))])
theorem aXW:aJ (false,[],0):=⟨⟨M6.Fc,fun h=>Bool.noConfusion h,by simp⟩,by constructor <;> decide,fun _=>rfl,fun h=>(h rfl).elim⟩
theorem spec:gO E f49 aE gZ sp:=by
 intro x h;exact(start x.1 x.2.1 x.2.2).trans (gP ⟨h,aXW⟩)
def aH:dG:=orc1 gZ sp
theorem ok:OK 49 aH:=(eF E aE (aA zO.ok aD) func49).nN rfl spec
end zN
namespace gL
def E:=mE [(45,pO.aH),(49,zN.aH)] 18 [] [] []
def aE:=bd f58
theorem aU:Nk E aE:=nk
theorem start a b c d e f:aF E f58 aE [D.agg [sc (bool a),ints u64 b,sc (int i64 c),sc (bool d),ints u64 e,sc (int i64 f)]]=letI A:=sc (int i64 0);aO (dP (a,b,c,d,e,f)) (aO (aJ (d,e,f)) (aB (decide (bZ (dv (d,e,f)) ((0:Int),(0:Int))<0)) (some [D.s (sc (int i64 (-1:Int))),D.s A]) (aO (aJ (a,b,c)) (aB (decide (0<bZ (dv (a,b,c)) ((0:Int),(0:Int)))) (some [D.s (sc (int i64 1)),D.s A]) (some [D.s A,D.s A]))))):=eJ aU
def wJ(a b:Int×Int):Int:=if bZ b (0,0)<0 then -1 else if 0<bZ a (0,0)then 1 else 0
def sp(s:qN):Prop×List D:=(dP s,[.s (.sc (.int .i64 (wJ (dv (fB s)) (dv (fF s))))),.s (.sc (.int .i64 0))])
theorem spec:gO E f58 aE qK sp:=by
 intro s h;have h:dP s:=h;have hL:aJ (s.1,s.2.1,s.2.2.1):=h.1;have hH:aJ (s.2.2.2.1,s.2.2.2.2.1,s.2.2.2.2.2):=h.2.1;refine(start s.1 s.2.1 s.2.2.1 s.2.2.2.1 s.2.2.2.2.1 s.2.2.2.2.2).trans ?_;unfold sp wJ
 try dsimp only
 rw[gP h,gP hH];show aB (decide (bZ (dv (fF s)) (0,0)<0)) _ _=_
 by_cases c1:bZ (dv (fF s)) (0,0)<0
 ·rw[aN c1,if_pos c1]
 ·rw[aI c1,if_neg c1,gP hL];show aB (decide (0<bZ (dv (fB s)) (0,0))) _ _=_
  by_cases c2:0<bZ (dv (fB s)) (0,0)
  ·rw[aN c2,if_pos c2]
  ·rw[aI c2,if_neg c2]
def aH:dG:=orc1 qK sp
theorem ok:OK 58 aH:=(eF E aE (aA pO.ok (aA zN.ok aD)) func58).nN rfl spec
end gL
namespace Iq
def E:=mE [(111,bS.aH)] 14 [11] [] []
def aE:=bd f59
theorem aU:Nk E aE:=nk
theorem start a b d e f g c:aF E f59 aE [D.agg [sc (bool a),ints u64 b,sc (int i64 d)],D.agg [sc (bool e),ints u64 f,sc (int i64 g)],D.s (sc (int i64 c))]=letI A:=bS.rZ false c (dv (a,b,d)) (dv (e,f,g));letI B:=bif fM A.fst A.snd then aL A.fst A.snd else((0:Int),(0:Int));aO (aJ (a,b,d)/\aJ (e,f,g)/\(dv (e,f,g)).fst≠0/\b.length<=4096/\f.length<=4096/\1<=c/\c<=70000) (some [D.agg [sc (bool (isNeg B.fst)),ints u64 (M6.dg B.fst.natAbs),sc (int i64 B.snd)],D.s (sc (int i64 (bif fM A.fst A.snd then(0:Int)else(5:Int))))]):=eJ aU
def sp(x y:dR)(p:Int):Prop×List D:=(aJ x/\aJ y/\(dv y).1≠0/\x.2.1.length<=4096/\y.2.1.length<=4096/\1<=p/\p<=70000,dE (fM (bS.rZ false p (dv x) (dv y)).1 (bS.rZ false p (dv x) (dv y)).2) (aL (bS.rZ false p (dv x) (dv y)).1 (bS.rZ false p (dv x) (dv y)).2))
theorem spec:sR E f59 aE gZ gZ (pN .i64) sp:=by
 intro x y p h;refine(start x.1 x.2.1 x.2.2 y.1 y.2.1 y.2.2 p).trans ((gP h).trans ?_);rfl
def aH:dG:=orc3 gZ gZ (pN .i64) sp
theorem ok:OK 59 aH:=(eF E aE (aA bS.ok aD) func59).Al rfl spec
end Iq
namespace Vi
def E:=mE [(111,bS.aH)] 14 [11] [] []
def aE:=bd f60
theorem aU:Nk E aE:=nk
theorem start a b d e f g c:aF E f60 aE [D.agg [sc (bool a),ints u64 b,sc (int i64 d)],D.agg [sc (bool e),ints u64 f,sc (int i64 g)],D.s (sc (int i64 c))]=letI A:=bS.rZ true c (dv (a,b,d)) (dv (e,f,g));letI B:=bif fM A.fst A.snd then aL A.fst A.snd else((0:Int),(0:Int));aO (aJ (a,b,d)/\aJ (e,f,g)/\(dv (e,f,g)).fst≠0/\b.length<=4096/\f.length<=4096/\1<=c/\c<=70000) (some [D.agg [sc (bool (isNeg B.fst)),ints u64 (M6.dg B.fst.natAbs),sc (int i64 B.snd)],D.s (sc (int i64 (bif fM A.fst A.snd then(0:Int)else(5:Int))))]):=eJ aU
def sp(x y:dR)(p:Int):Prop×List D:=(aJ x/\aJ y/\(dv y).1≠0/\x.2.1.length<=4096/\y.2.1.length<=4096/\1<=p/\p<=70000,dE (fM (bS.rZ true p (dv x) (dv y)).1 (bS.rZ true p (dv x) (dv y)).2) (aL (bS.rZ true p (dv x) (dv y)).1 (bS.rZ true p (dv x) (dv y)).2))
theorem spec:sR E f60 aE gZ gZ (pN .i64) sp:=by
 intro x y p h;refine(start x.1 x.2.1 x.2.2 y.1 y.2.1 y.2.2 p).trans ((gP h).trans ?_);rfl
def aH:dG:=orc3 gZ gZ (pN .i64) sp
theorem ok:OK 60 aH:=(eF E aE (aA bS.ok aD) func60).Al rfl spec
end Vi
namespace Rt
def E:=mE [] 23 [] [] []
def aE:=bd f47
theorem aU:Nk E aE:=nk
theorem start a c e b f g h d:aF E f47 aE [D.agg [sc (bool a),ints u64 c,sc (int i64 e)],D.s (sc (int i64 b)),D.agg [sc (bool f),ints u64 g,sc (int i64 h)],D.s (sc (int i64 d))]=letI B:=int i64 0;letI A:=some [D.agg [sc (bool false),sc (slice none 0 0),sc B,sc (bool false),sc (slice none 0 0),sc B],D.s (sc (int i64 (if d>b then d else b)))];aB (b !=0) A (aB (d !=0) A (some [D.agg [sc (bool a),ints u64 c,sc (int i64 e),sc (bool f),ints u64 g,sc (int i64 h)],D.s (sc B)])):=eJ aU
def sp(x:dR)(e:Int)(y:dR)(f:Int):Prop×List D:=(e=0/\f=0,[.agg [.sc (.bool x.1),.ints .u64 x.2.1,.sc (.int .i64 x.2.2),.sc (.bool y.1),.ints .u64 y.2.1,.sc (.int .i64 y.2.2)],.s (.sc (.int .i64 0))])
theorem spec:aGD E f47 aE gZ (pN .i64) gZ (pN .i64) sp:=by
 rintro x e y f ⟨rfl,rfl⟩;exact start x.1 x.2.1 x.2.2 0 y.1 y.2.1 y.2.2 0
def aH:dG:=orc4 gZ (pN .i64) gZ (pN .i64) sp
theorem ok:OK 47 aH:=(eF E aE aD func47).aSB rfl spec
end Rt
namespace iX
def E:=mE [(40,rE.aH),(58,gL.aH),(31,jM.aH),(49,zN.aH),(59,Iq.aH),(60,Vi.aH),(47,Rt.aH)] 86 [21,83] [(11,[2,3,4,6]),(14,[2,3,4,6,11,12]),(16,[2,3,6,11,12])] [11,14,16]
def aE:=bd f21
theorem aU:Nk E aE:=nk
def aMM a b c d e f g h i j k l m n o p q:=kV E f21 aE 11 [bP a,cQ 1 31 [bW b,dZ c,cI d,bW e,dZ f,cI g],cQ 2 31 [bW h,dZ i,cI j,bW k,dZ l,cI m],cQ 3 31 [bW n,sc (slice none 0 0),cI o,bW p,sc (slice none 0 0),cI q]]
def aKM a b c d e f g h i j k l m n o p q r s t u v w:=kV E f21 aE 14 [bP a,cQ 1 31 [bW b,dZ c,cI d,bW e,dZ f,cI g],cQ 2 31 [bW h,dZ i,cI j,bW k,dZ l,cI m],cQ 3 31 [bW n,sc (slice none 0 0),cI o,bW p,sc (slice none 0 0),cI q],cQ 4 29 [bW r,dZ s,cI t],cQ 5 29 [bW u,dZ v,cI w]]
def aKL a b c d e f g h i j k l m n o p q:=kV E f21 aE 16 [bP a,cQ 1 31 [bW b,dZ c,cI d,bW e,dZ f,cI g],cQ 2 31 [bW h,sc (slice none 0 0),cI i,bW j,sc (slice none 0 0),cI k],cQ 3 29 [bW l,dZ m,cI n],cQ 4 29 [bW o,dZ p,cI q]]
theorem start a b d e f g h i j k l m c:aF E f21 aE [D.agg [sc (bool a),ints u64 b,sc (int i64 d),sc (bool e),ints u64 f,sc (int i64 g)],D.agg [sc (bool h),ints u64 i,sc (int i64 j),sc (bool k),ints u64 l,sc (int i64 m)],D.s (sc (int i64 c))]=letI I:=int i64 0;letI F:=bool false;letI C:=slice none 0 0;letI B:=(a,b,d,e,f,g);letI N:=dv (fB B);letI K:=dv (fF B);letI A:=(h,i,j,k,l,m);letI H:=dv (fF A);letI G:=dv (fB A);aO (dP B/\dP A) (aC (if 1<=c/\c<=70000 then(0:Int)else(1:Int)) fun n=>aB (n !=0) (some [D.agg [sc F,sc C,sc I,sc F,sc C,sc I],D.s (sc (int i64 n))]) (aO (dP A) (aC (gL.wJ G H) fun o=>aB (o==0) (some [D.agg [sc F,sc C,sc I,sc F,sc C,sc I],D.s (sc (int i64 4))]) (aB (o==(-1:Int)) (aO (dP B) (aC (isNeg (-K.fst)) fun p=>aC (M6.dg (-K.fst).natAbs) fun q=>aC K.snd fun r=>aC (isNeg (-N.fst)) fun s=>aC (M6.dg (-N.fst).natAbs) fun t=>aC N.snd fun u=>aO (dP A) (aC (isNeg (-H.fst)) fun v=>aC (M6.dg (-H.fst).natAbs) fun w=>aC H.snd fun x=>aC (isNeg (-G.fst)) fun y=>aC (M6.dg (-G.fst).natAbs) fun z=>aC G.snd fun aa=>iX.aMM c p q r s t u v w x y z aa false 0 false 0))) (iX.aMM c a b d e f g h i j k l m false 0 false 0))))):=eJ aU
theorem Ve a b c d e f g h i j k l m n o p q:aMM a b c d e f g h i j k l m n o p q=aO (aJ (b,c,d)) (aC (bZ (dv (b,c,d)) ((0:Int),(0:Int))) fun r=>aB (decide (r<0)) (iX.aKM a b c d e f g h i j k l m n o p q h i j h i j) (iX.aKM a b c d e f g h i j k l m n o p q k l m h i j)):=cJ aU
theorem Oi a b c d e f g h i j k l m n o p q r s t u v w:aKM a b c d e f g h i j k l m n o p q r s t u v w=aO (aJ (e,f,g)) (aC (bZ (dv (e,f,g)) ((0:Int),(0:Int))) fun x=>aB (decide (x<0)) (iX.aKL a b c d e f g n o p q r s t k l m) (iX.aKL a b c d e f g n o p q r s t u v w)):=cJ aU
theorem Vb a b c d e f g h i j k l m n o p q:aKL a b c d e f g h i j k l m n o p q=letI B:=bS.rZ true a (dv (e,f,g)) (dv (o,p,q));letI F:=bif fM B.fst B.snd then aL B.fst B.snd else((0:Int),(0:Int));letI A:=bS.rZ false a (dv (b,c,d)) (dv (l,m,n));letI C:=bif fM A.fst A.snd then aL A.fst A.snd else((0:Int),(0:Int));aO (aJ (b,c,d)/\aJ (l,m,n)/\(dv (l,m,n)).fst≠0/\c.length<=4096/\m.length<=4096/\1<=a/\a<=70000) (aC (isNeg C.fst) fun r=>aC (M6.dg C.fst.natAbs) fun s=>aC C.snd fun t=>aC (bif fM A.fst A.snd then(0:Int)else(5:Int)) fun u=>aO (aJ (e,f,g)/\aJ (o,p,q)/\(dv (o,p,q)).fst≠0/\f.length<=4096/\p.length<=4096/\1<=a/\a<=70000) (aC (isNeg F.fst) fun v=>aC (M6.dg F.fst.natAbs) fun w=>aC F.snd fun x=>aC (bif fM B.fst B.snd then(0:Int)else(5:Int)) fun y=>aO (u=0/\y=0) (some [D.agg [sc (bool r),ints u64 s,sc (int i64 t),sc (bool v),ints u64 w,sc (int i64 x)],D.s (sc (int i64 0))]))):=cJ aU
def aAH(p:Int)(a u v:Int×Int):Int×Int:=bS.rZ false p a (bif decide (bZ a (0,0)<0)then u else v)
def aAI(p:Int)(a u v:Int×Int):Int×Int:=bS.rZ true p a (bif decide (bZ a (0,0)<0)then v else u)
def Oo(p:Int)(a b u v:Int×Int):Int×Int:=bif gL.wJ u v==-1 then aAH p (jM.uS b) (jM.uS v) (jM.uS u)else aAH p a u v
def Oq(p:Int)(a b u v:Int×Int):Int×Int:=bif gL.wJ u v==-1 then aAI p (jM.uS a) (jM.uS v) (jM.uS u)else aAI p b u v
def sp(s t:qN)(p:Int):Prop×List D:=(dP s/\dP t/\(1<=p/\p<=70000)/\gL.wJ (dv (fB t)) (dv (fF t))≠0 /\
 (bl (dv (fB s)).1.natAbs<=262144/\bl (dv (fF s)).1.natAbs<=262144/\bl (dv (fB t)).1.natAbs<=262144/\bl (dv (fF t)).1.natAbs<=262144) /\
 fM (Oo p (dv (fB s)) (dv (fF s)) (dv (fB t)) (dv (fF t))).1 (Oo p (dv (fB s)) (dv (fF s)) (dv (fB t)) (dv (fF t))).2=true/\fM (Oq p (dv (fB s)) (dv (fF s)) (dv (fB t)) (dv (fF t))).1 (Oq p (dv (fB s)) (dv (fF s)) (dv (fB t)) (dv (fF t))).2=true,
 [vU (aL (Oo p (dv (fB s)) (dv (fF s)) (dv (fB t)) (dv (fF t))).1 (Oo p (dv (fB s)) (dv (fF s)) (dv (fB t)) (dv (fF t))).2) (aL (Oq p (dv (fB s)) (dv (fF s)) (dv (fB t)) (dv (fF t))).1 (Oq p (dv (fB s)) (dv (fF s)) (dv (fB t)) (dv (fF t))).2),.s (.sc (.int .i64 0))])
theorem J{p:Int}(hp:1<=p/\p<=70000){x y u v:dR}(hx:aJ x)(hy:aJ y)(hu:aJ u)(hv:aJ v)(u0:(dv u).1≠0)(v0:(dv v).1≠0)(lx:x.2.1.length<=4096)(ly:y.2.1.length<=4096)(lu:u.2.1.length<=4096)(lv:v.2.1.length<=4096)
  (i1:fM (aAH p (dv x) (dv u) (dv v)).1 (aAH p (dv x) (dv u) (dv v)).2=true) (i2:fM (aAI p (dv y) (dv u) (dv v)).1 (aAI p (dv y) (dv u) (dv v)).2=true) :
  aMM p x.1 x.2.1 x.2.2 y.1 y.2.1 y.2.2 u.1 u.2.1 u.2.2 v.1 v.2.1 v.2.2 false 0 false 0=some [vU (aL (aAH p (dv x) (dv u) (dv v)).1 (aAH p (dv x) (dv u) (dv v)).2) (aL (aAI p (dv y) (dv u) (dv v)).1 (aAI p (dv y) (dv u) (dv v)).2),.s (.sc (.int .i64 0))]:=by
 have fin:∀m n:dR,aJ m->aJ n->(dv m).1≠0->(dv n).1≠0->m.2.1.length<=4096->n.2.1.length<=4096->fM (bS.rZ false p (dv x) (dv m)).1 (bS.rZ false p (dv x) (dv m)).2=true->fM (bS.rZ true p (dv y) (dv n)).1 (bS.rZ true p (dv y) (dv n)).2=true ->
   aKL p x.1 x.2.1 x.2.2 y.1 y.2.1 y.2.2 false 0 false 0 m.1 m.2.1 m.2.2 n.1 n.2.1 n.2.2=some [vU (aL (bS.rZ false p (dv x) (dv m)).1 (bS.rZ false p (dv x) (dv m)).2) (aL (bS.rZ true p (dv y) (dv n)).1 (bS.rZ true p (dv y) (dv n)).2),.s (.sc (.int .i64 0))]:=by
  intro m n hm hn m0 n0 lm ln j1 j2;have x1:(x.1,x.2.1,x.2.2)=x:=rfl;have x2:(y.1,y.2.1,y.2.2)=y:=rfl;have x3:(m.1,m.2.1,m.2.2)=m:=rfl;have x4:(n.1,n.2.1,n.2.2)=n:=rfl;rw[Vb];simp only[aK,x1,x2,x3,x4,j1,j2,cond_true];rw[gP ⟨hx,hm,m0,lx,lm,hp.1,hp.2⟩,gP ⟨hy,hn,n0,ly,ln,hp.1,hp.2⟩,gP ⟨trivial,trivial⟩];rfl
 unfold aAH aAI at *;rw[Ve,gP hx,aK]
 by_cases c1:bZ (dv x) (0,0)<0
 ·rw[show dv (x.1,x.2.1,x.2.2)=dv x from rfl,aN c1,Oi,gP hy,aK,show dv (y.1,y.2.1,y.2.2)=dv y from rfl];rw[decide_eq_true c1,cond_true]at i1 ⊢
  by_cases c2:bZ (dv y) (0,0)<0
  ·rw[aN c2];rw[decide_eq_true c2,cond_true]at i2 ⊢;exact fin u v hu hv u0 v0 lu lv i1 i2
  ·rw[aI c2];rw[decide_eq_false c2,cond_false]at i2 ⊢;exact fin u u hu hu u0 u0 lu lu i1 i2
 ·rw[show dv (x.1,x.2.1,x.2.2)=dv x from rfl,aI c1,Oi,gP hy,aK,show dv (y.1,y.2.1,y.2.2)=dv y from rfl];rw[decide_eq_false c1,cond_false]at i1 ⊢
  by_cases c2:bZ (dv y) (0,0)<0
  ·rw[aN c2];rw[decide_eq_true c2,cond_true]at i2 ⊢;exact fin v v hv hv v0 v0 lv lv i1 i2
  ·rw[aI c2];rw[decide_eq_false c2,cond_false]at i2 ⊢;exact fin v u hv hu v0 u0 lv lu i1 i2
theorem cell{q:Int×Int}(h:iS q)(hb:bl q.1.natAbs<=262144):(isNeg q.1,M6.dg q.1.natAbs,q.2).2.1.length<=4096:=by
 have:=cK h;refine this.Ck ?_;rw[cT];exact hb
theorem spec:sR E f21 aE qK qK (pN .i64) sp:=by
 rintro s t p ⟨h1,h2,hp,hs,⟨l1,l2,l3,l4⟩,i1,i2⟩;refine(start s.1 s.2.1 s.2.2.1 s.2.2.2.1 s.2.2.2.2.1 s.2.2.2.2.2 t.1 t.2.1 t.2.2.1 t.2.2.2.1 t.2.2.2.2.1 t.2.2.2.2.2 p).trans ?_;rw[gP ⟨h1,h2⟩,aK,if_pos hp,fD rfl,gP h2,aK];unfold sp;have n1:(dv (fB t)).1≠0:=fun hz=>by
  have:=Fi.1 (Em hz);have o:=jR.1 h2.2.2;unfold gL.wJ at hs
  by_cases g:bZ (dv (fF t)) (0,0)<0
  ·have:=vB.1 g;grind
  ·rw[if_neg g,if_neg (by rw[Em hz];omega)]at hs;exact hs rfl
 have n2:(dv (fF t)).1≠0:=fun hz=>by
  have:=Fi.1 (Em hz);have o:=jR.1 h2.2.2;unfold gL.wJ at hs;rw[if_neg (by rw[Em hz];omega)]at hs
  by_cases g:0<bZ (dv (fB t)) (0,0)
  ·have:=nD.1 g;grind
  ·rw[if_neg g]at hs;exact hs rfl
 show aB (gL.wJ (dv (fB t)) (dv (fF t))==0) _ _=_;rw[bV hs];have p1:=h1.1.qJ;have p2:=h1.2.1.qJ;have p3:=h2.1.qJ;have p4:=h2.2.1.qJ;unfold Oo Oq at *
 by_cases c:gL.wJ (dv (fB t)) (dv (fF t))=-1
 ·rw[show(gL.wJ (dv (fB t)) (dv (fF t))==-1)=true from beq_iff_eq.2 c,cond_true]at i1 i2;show aB (gL.wJ (dv (fB t)) (dv (fF t))==-1) _ _=_;rw[cN c,gP h1];simp only[aK];rw[gP h2];rw[show(gL.wJ (dv (fB t)) (dv (fF t))==-1)=true from beq_iff_eq.2 c,cond_true,cond_true];have e:=J hp (cK p2.Ed) (cK p1.Ed) (cK p4.Ed) (cK p3.Ed);rw[cT,cT,cT,cT]at e;dsimp only at e;exact e (by omega) (by omega) (cell p2.Ed (by dsimp only;rw[bSQ];exact l2)) (cell p1.Ed (by dsimp only;rw[bSQ];exact l1)) (cell p4.Ed (by dsimp only;rw[bSQ];exact l4)) (cell p3.Ed (by dsimp only;rw[bSQ];exact l3)) i1 i2
 ·rw[show(gL.wJ (dv (fB t)) (dv (fF t))==-1)=false from beq_eq_false_iff_ne.2 c,cond_false]at i1 i2;show aB (gL.wJ (dv (fB t)) (dv (fF t))==-1) _ _=_;rw[bV c];rw[show(gL.wJ (dv (fB t)) (dv (fF t))==-1)=false from beq_eq_false_iff_ne.2 c,cond_false,cond_false];exact J hp h1.1 h1.2.1 h2.1 h2.2.1 n1 n2 (h1.1.Ck l1) (h1.2.1.Ck l2) (h2.1.Ck l3) (h2.2.1.Ck l4) i1 i2
def aH:dG:=orc3 qK qK (pN .i64) sp
theorem ok:OK 21 aH:=(eF E aE (aA rE.ok (aA gL.ok (aA jM.ok (aA zN.ok (aA Iq.ok (aA Vi.ok (aA Rt.ok aD))))))) func21).Al rfl spec
end iX
namespace VTurned
def trn(s c:(Int×Int)×(Int×Int)):Nat->((Int×Int)×(Int×Int))×((Int×Int)×(Int×Int))
 |0=>(s,c)
 |n+1=>trn c (jM.uS s.2,jM.uS s.1) n
theorem aNN{s:qN}(h:dP s):dP (mI (jM.uS (dv (fF s))) (jM.uS (dv (fB s)))):=by
 refine uL h.2.1.qJ.Ed h.1.qJ.Ed ?_;have:=jR.1 h.2.2;refine jR.2 ?_;unfold jM.uS;rw[rY,rY];grind
end VTurned
end W
namespace M
open Go AI W
structure Bx(s:(Int×Int)×(Int×Int))(V W m:Rat):Prop where
 pl:iS s.1
 ph:iS s.2
 bl:bl s.1.1.natAbs<=100000
 bh:M.bl s.2.1.natAbs<=100000
 m0:0<=m
 lo:R.qz s.1+m<=V
 hi:V+m<=R.qz s.2
 wd:R.qz s.2-R.qz s.1<=W
theorem Bx.neg{s:(Int×Int)×(Int×Int)}{V W m:Rat}(h:Bx s V W m):Bx (jM.uS s.2,jM.uS s.1) (-V) W m:=by
 obtain⟨h1,h2,h3,h4,h5,h6,h7,h8⟩:=h;refine⟨h2.Ed,h1.Ed,?_,?_,h5,?_,?_,?_⟩
 ·show M.bl (-s.2.1).natAbs<=_;rw[bSQ];exact h4
 ·show M.bl (-s.1.1).natAbs<=_;rw[bSQ];exact h3
 ·show R.qz (-s.2.1,s.2.2)+m<=_;rw[rY];grind
 ·show _<=R.qz (-s.1.1,s.1.2);rw[rY];grind
 ·show R.qz (-s.1.1,s.1.2)-R.qz (-s.2.1,s.2.2)<=_;rw[rY,rY];grind
theorem Bx.Sr{s:(Int×Int)×(Int×Int)}{V W m:Rat}(h:Bx s V W m):dP (mI s.1 s.2):=uL h.pl h.ph (jR.2 (by have:=h.lo;have:=h.hi;have:=h.m0;grind))
theorem Bx.trn{s c:(Int×Int)×(Int×Int)}{S C Ws Wc m:Rat}(hs:Bx s S Ws m)(hc:Bx c C Wc m){k:Int} :
  Bx (VTurned.trn s c (k%4).toNat).1 (R.rs k S C) (if k%2=0 then Ws else Wc) m/\Bx (VTurned.trn s c (k%4).toNat).2 (R.rc k S C) (if k%2=0 then Wc else Ws) m:=by
 have h4:k%4=0\/k%4=1\/k%4=2\/k%4=3:=by omega
 unfold R.rs R.rc;rcases h4 with h |h |h |h
 ·have h2:k%2=0:=by omega
  simp[h,h2];exact⟨hs,hc⟩
 ·have h2:k%2=1:=by omega
  simp[h,h2];exact⟨hc,hs.neg⟩
 ·have h2:k%2=0:=by omega
  simp[h,h2];exact⟨hs.neg,hc.neg⟩
 ·have h2:k%2=1:=by omega
  simp[h,h2];have e:s=(jM.uS (jM.uS s.1),jM.uS (jM.uS s.2)):=by
   obtain⟨⟨a,b⟩,c,d⟩:=s;unfold jM.uS;dsimp only;rw[Int.neg_neg,Int.neg_neg]
  refine⟨hc.neg,?_⟩;have:=hs;rw[e]at this;exact this
theorem aJS(up:Bool){z:Int}{v:Rat}{k:Nat}(hk:1<=k)(h:(z:Rat)=v\/(z%2=1/\(z:Rat)-1<v/\v<(z:Rat)+1)) :
  (up=false->(iK.mU up z k:Rat)*((2^k:Nat):Rat)<=v/\v<=(iK.mU up z k:Rat)*((2^k:Nat):Rat)+((2^k:Nat):Rat))/\(up=true->v<=(iK.mU up z k:Rat)*((2^k:Nat):Rat)/\(iK.mU up z k:Rat)*((2^k:Nat):Rat)<=v+((2^k:Nat):Rat)):=by
 obtain⟨c1,c2⟩:=Xn up z k;have K0:(0:Rat)<((2^k:Nat):Rat):=by exact_mod_cast bOV (by decide)
 rcases h with h |⟨ho,h1,h2⟩
 ·rw[<-h];exact⟨fun hu=>⟨(c1 hu).1,bRD (c1 hu).2⟩,fun hu=>⟨(c2 hu).1,bRD (c2 hu).2⟩⟩
 ·
  have ev:(2:Int)∣((2^k:Nat):Int):=by
   obtain⟨j,rfl⟩:∃j,k=j+1:=⟨k-1,by omega⟩;rw[bQV];exact⟨((2^j:Nat):Int),by push_cast;omega⟩
  have fl:∀w:Int,w%2=1->w/((2^k:Nat):Int)*((2^k:Nat):Int)+1<=w/\w+1<=w/((2^k:Nat):Int)*((2^k:Nat):Int)+((2^k:Nat):Int):=by
   intro w hw;have e:=Int.mul_ediv_add_emod w ((2^k:Nat):Int);have hp:(0:Int)<((2^k:Nat):Int):=by have:=bOV (n:=k) (show 0<2 by decide);omega
   have m0:=Int.emod_nonneg w (show((2^k:Nat):Int)≠0 by omega);have m1:=Int.emod_lt_of_pos w hp;have m2:w%((2^k:Nat):Int)%2=1:=by rw[Int.emod_emod_of_dvd w ev];exact hw
   rw[Int.mul_comm]at e;generalize w/((2^k:Nat):Int)*((2^k:Nat):Int)=P at *;omega
  constructor
  ·rintro rfl;unfold iK.mU;rw[cond_false];obtain⟨f1,f2⟩:=fl z ho;have bLB:((z/((2^k:Nat):Int):Int):Rat)*((2^k:Nat):Rat)+1<=(z:Rat):=by exact_mod_cast f1
   have bLA:(z:Rat)+1<=((z/((2^k:Nat):Int):Int):Rat)*((2^k:Nat):Rat)+((2^k:Nat):Rat):=by exact_mod_cast f2
   generalize ((z/((2^k:Nat):Int):Int):Rat)*((2^k:Nat):Rat)=P at *;constructor <;> grind
  ·rintro rfl;unfold iK.mU;rw[cond_true];obtain⟨f1,f2⟩:=fl (-z) (by omega);have bLB:((-z/((2^k:Nat):Int):Int):Rat)*((2^k:Nat):Rat)+1<=-(z:Rat):=by exact_mod_cast f1
   have bLA:-(z:Rat)+1<=((-z/((2^k:Nat):Int):Int):Rat)*((2^k:Nat):Rat)+((2^k:Nat):Rat):=by exact_mod_cast f2
   rw[bWX];have e:-((-z/((2^k:Nat):Int):Int):Rat)*((2^k:Nat):Rat)=-(((-z/((2^k:Nat):Int):Int):Rat)*((2^k:Nat):Rat)):=by grind
   rw[e];generalize ((-z/((2^k:Nat):Int):Int):Rat)*((2^k:Nat):Rat)=P at *;constructor <;> grind
theorem aIH{a b s:Nat}(hb:0<b):∃v:Rat,v*(b:Rat)=2*((a:Rat)*((2^s:Nat):Rat))/\0<=v/\((bS.Pl a b s:Rat)=v\/(bS.Pl a b s%2=1/\(bS.Pl a b s:Rat)-1<v/\v<(bS.Pl a b s:Rat)+1)):=by
 have b0:(0:Rat)<(b:Rat):=by exact_mod_cast hb
 have hd:=bRC (a*2^s) b;have hm:=bOE (a*2^s) hb;have A:(b:Rat)*((a*2^s/b:Nat):Rat)+((a*2^s%b:Nat):Rat)=(a:Rat)*((2^s:Nat):Rat):=by exact_mod_cast hd
 have Mm:((a*2^s%b:Nat):Rat)<(b:Rat):=by exact_mod_cast hm
 have q0:(0:Rat)<=((a*2^s/b:Nat):Rat):=by exact_mod_cast bRZ _
 have m0:(0:Rat)<=((a*2^s%b:Nat):Rat):=by exact_mod_cast bRZ _
 refine⟨2*((a:Rat)*((2^s:Nat):Rat))/(b:Rat),by grind,?_,?_⟩
 ·refine R.dK b0 ?_;have:(b:Rat)*(2*((a:Rat)*((2^s:Nat):Rat))/(b:Rat))=2*((a:Rat)*((2^s:Nat):Rat)):=by grind
  rw[this,<-A];have:=R.aG (bRD b0) q0;grind
 ·have e:(b:Rat)*(2*((a:Rat)*((2^s:Nat):Rat))/(b:Rat))=2*((b:Rat)*((a*2^s/b:Nat):Rat)+((a*2^s%b:Nat):Rat)):=by rw[A];grind
  generalize 2*((a:Rat)*((2^s:Nat):Rat))/(b:Rat)=v at *;unfold bS.Pl
  by_cases hz:a*2^s%b=0
  ·left;rw[if_pos hz,bMX,bSW];rw[hz]at e;have z:((0:Nat):Rat)=0:=by norm_cast
   have two:((2:Nat):Rat)=2:=by norm_cast
   rw[z]at e;rw[two];have:(b:Rat)*v=(b:Rat)*(((a*2^s/b:Nat):Rat)*2):=by rw[e];grind
   exact(Rat.le_antisymm (R.dK b0 (by rw[this];exact bSK)) (R.dK b0 (by rw[this];exact bSK))).symm
  ·right;have m1:(1:Rat)<=((a*2^s%b:Nat):Rat):=by exact_mod_cast(show 1<=a*2^s%b by omega)
   rw[if_neg hz];have c:((a*2^s/b*2+1:Nat):Rat)=2*((a*2^s/b:Nat):Rat)+1:=by
    rw[bWI,bSW];have two:((2:Nat):Rat)=2:=by norm_cast
    have one:((1:Nat):Rat)=1:=by norm_cast
    rw[two,one];grind
   rw[c];refine⟨by omega,?_,?_⟩
   ·refine R.oO b0 ?_;rw[e];grind
   ·refine R.oO b0 ?_;rw[e];grind
end M
namespace W
open Go AI M
namespace zP
def E:=mE [(98,xG.aH),(45,pO.aH)] 20 [] [(4,[10,11,12])] []
def aE:=bd f40
theorem aU:Nk E aE:=nk
def L4(a:Nat)(b:Nat->Bool)(c:Nat->List Int)(d:Nat->Int)(e:Nat->Bool)(f:Nat->List Int)(g:Nat->Int) x7 h:=nO E f40 aE 4 [(A.v (V.one (L.rows 6 a fun i=>[sc (bool (b i)),ints u64 (c i),sc (int i64 (d i)),sc (bool (e i)),ints u64 (f i),sc (int i64 (g i))])),none),bP x7,bP h]
theorem start p (a:qN):aF E f40 aE [D.s (sc (int i64 p)),D.rows 6 1 fun i=>[sc (bool a.fst),ints u64 a.snd.fst,sc (int i64 a.snd.snd.fst),sc (bool a.snd.snd.snd.fst),ints u64 a.snd.snd.snd.snd.fst,sc (int i64 a.snd.snd.snd.snd.snd)]]=aO True (aB (!(decide (1<=p)&&decide (p<=70000))) (some [D.s (sc (int i64 1))]) (zP.L4 1 (fun i=>a.fst) (fun i=>a.snd.fst) (fun i=>a.snd.snd.fst) (fun i=>a.snd.snd.snd.fst) (fun i=>a.snd.snd.snd.snd.fst) (fun i=>a.snd.snd.snd.snd.snd) 1 0)):=eJ aU
theorem kS a b c d e f g h j:L4 a b c d e f g h j=aB (decide (j<h)) (if 0<=j/\j<(a:Int)then aO (dP (b j.toNat,c j.toNat,d j.toNat,e j.toNat,f j.toNat,g j.toNat)) (zP.L4 a (fun i=>b i) (fun i=>c i) (fun i=>d i) (fun i=>e i) (fun i=>f i) (fun i=>g i) h (i64.wrap (j+1)))else none) (some [D.s (sc (int i64 0))]):=lJ aU
def sp(p:Int)(a:qN):Prop×List D:=(dP a,[.s (.sc (.int .i64 (if 1<=p/\p<=70000 then 0 else 1)))])
theorem L(n:Nat)(f:Nat->qN)(hn:n<=1000)(hf:∀i,i<n->dP (f i)):∀d k:Nat,k+d=n->L4 n (fun i=>(f i).1) (fun i=>(f i).2.1) (fun i=>(f i).2.2.1) (fun i=>(f i).2.2.2.1) (fun i=>(f i).2.2.2.2.1) (fun i=>(f i).2.2.2.2.2) (n:Int) (k:Int)=some [D.s (.sc (.int .i64 0))]
 |0,k,h=>by rw[kS,aI]
 |d+1,k,h=>by
  have e:i64.wrap ((k:Int)+1)=((k+1:Nat):Int):=by rw[wrap_i64];omega
  rw[kS,aN,aT,bPS,gP (hf k (by omega)),e];exact L n f hn hf d (k+1) (by omega)
theorem spec:fI E f40 aE (pN .i64) (bDD (.pair sB (.pair (sI .u64) (.pair (sN .i64) (.pair sB (.pair (sI .u64) (sN .i64)))))) (false,[],0,false,[],0)) sp:=by
 intro p a h;have hf:∀i,i<1->dP (a):=fun i hi=>h
 refine(start p a).trans ((gP trivial).trans ?_);unfold sp
 by_cases hp:1<=p/\p<=70000
 ·rw[if_pos hp,decide_eq_true hp.1,decide_eq_true hp.2];exact L 1 (fun _=>a) (by decide) hf 1 0 (by omega)
 ·rw[if_neg hp];have:(decide (1<=p)&&decide (p<=70000))=false:=by
   rw[bYK,decide_eq_false_iff_not,decide_eq_false_iff_not];omega
  rw[this];rfl
def aH:dG:=orc2 (pN .i64) (bDD (.pair sB (.pair (sI .u64) (.pair (sN .i64) (.pair sB (.pair (sI .u64) (sN .i64)))))) (false,[],0,false,[],0)) sp
theorem ok:OK 40 aH:=(eF E aE (aA xG.ok (aA pO.ok aD)) func40).lA rfl spec
end zP
end W
namespace M
open Go AI W
theorem aII{a b:Nat}{p:Int}(hp:1<=p)(ha:a≠0)(hb:b≠0):p+3<=(bl (bS.Pl a b (bS.yO p a b)):Nat):=by
 have h1:=Xy ha;have h2:=vM b;have b0:=qE ha;have key:2^(p+1).toNat<=a*2^(bS.yO p a b)/b:=by
  rw[Nat.le_div_iff_mul_le (by omega)];have e1:2^(p+1).toNat*b<=2^((p+1).toNat+bl b):=by rw[bQX];exact bOK _ (Nat.le_of_lt h2)
  have e2:2^(bl a-1+bS.yO p a b)<=a*2^(bS.yO p a b):=by rw[bQX];exact bNJ _ h1
  have e3:2^((p+1).toNat+bl b)<=2^(bl a-1+bS.yO p a b):=bOW (by decide) (by unfold bS.yO;omega);omega
 have:2^(p+2).toNat<=bS.Pl a b (bS.yO p a b):=by
  have e:2^(p+2).toNat=2^(p+1).toNat*2:=by rw[<-bQV];congr 1;omega
  unfold bS.Pl;rw[e];generalize a*2^(bS.yO p a b)/b=Q at *;omega
 have:=(rP (n:=bS.Pl a b (bS.yO p a b)) (k:=(p+2).toNat)).2 this;omega
theorem Li(b:Bool)(n:Nat):(zs b n:Rat)=(if b then -1 else 1)*(n:Rat):=by
 cases b
 ·show((n:Int):Rat)=_;rw[bWO];simp
 ·show((-(n:Int):Int):Rat)=_;rw[bWX,bWO,if_pos rfl];grind
theorem aKR(z:Int):zs (isNeg z) z.natAbs=z:=by
 cases h:isNeg z with
 |true=>have:=lP.1 h;show -(z.natAbs:Int)=z;omega
 |false=>have:=jI.1 h;show(z.natAbs:Int)=z;omega
theorem Ey(up:Bool){x y:Int×Int}{p:Int}{q:Rat}(hp:1<=p)(hy:y.1≠0)(hq:q*R.qz y=R.qz x) :
  (up=false->R.qz (aL (bS.rZ up p x y).1 (bS.rZ up p x y).2)<=q/\q<=R.qz (aL (bS.rZ up p x y).1 (bS.rZ up p x y).2)+R.pz (2-p)*R.ab q) /\
  (up=true->q<=R.qz (aL (bS.rZ up p x y).1 (bS.rZ up p x y).2)/\R.qz (aL (bS.rZ up p x y).1 (bS.rZ up p x y).2)<=q+R.pz (2-p)*R.ab q):=by
 rw[mB];unfold bS.rZ bS.aRX;dsimp only;obtain⟨v,v1,v2,v3⟩:=aIH (a:=x.1.natAbs) (b:=y.1.natAbs) (s:=bS.yO p x.1.natAbs y.1.natAbs) (by omega);have aVL:=aII (a:=x.1.natAbs) (b:=y.1.natAbs) hp;have bLP:=R.aQ q;generalize hs:bS.yO p x.1.natAbs y.1.natAbs=s at *;generalize hQ:bS.Pl x.1.natAbs y.1.natAbs s=Q at *;obtain⟨e,he⟩:∃e,e=x.2-y.2-(s:Int)-1:=⟨_,rfl⟩;rw[<-he];have pe:=R.dS e;have vq:q=(if(isNeg x.1 !=isNeg y.1)then -1 else 1)*v*R.pz e:=by
  have aNW:(x.1:Rat)=(if isNeg x.1 then -1 else 1)*(x.1.natAbs:Rat):=by rw[<-Li,aKR]
  have aDG:(y.1:Rat)=(if isNeg y.1 then -1 else 1)*(y.1.natAbs:Rat):=by rw[<-Li,aKR]
  have bFY:R.qz y≠0:=aLB hy;have ex:R.pz x.2=2*((2^s:Nat):Rat)*R.pz e*R.pz y.2:=by
   have:x.2=e+y.2+(s:Int)+1:=by omega
   rw[this,R.jG,R.dT,R.mD];grind
  have e2:((if(isNeg x.1 !=isNeg y.1)then -1 else 1)*v*R.pz e)*R.qz y=R.qz x:=by
   unfold R.qz;rw[ex,aNW,aDG];have:v*(y.1.natAbs:Rat)=2*((x.1.natAbs:Rat)*((2^s:Nat):Rat)):=v1;cases isNeg x.1 <;> cases isNeg y.1 <;> simp <;> grind
  have e3:(q-(if(isNeg x.1 !=isNeg y.1)then -1 else 1)*v*R.pz e)*R.qz y=0:=by grind
  rcases Rat.mul_eq_zero.1 e3 with h |h
  ·grind
  ·exact absurd h bFY
 obtain⟨w,hw⟩:∃w,w=(if(isNeg x.1 !=isNeg y.1)then(-1:Rat)else 1)*v:=⟨_,rfl⟩;rw[<-hw]at vq;obtain⟨z,hz⟩:∃z,z=zs (isNeg x.1 !=isNeg y.1) Q:=⟨_,rfl⟩;rw[<-hz];have aYK:(z:Rat)=w\/(z%2=1/\(z:Rat)-1<w/\w<(z:Rat)+1):=by
  rw[hz,Li,hw];rcases v3 with h |⟨h1,h2,h3⟩
  ·left;rw[h]
  ·right;refine⟨?_,?_⟩
   ·cases (isNeg x.1 !=isNeg y.1)
    ·show((Q:Nat):Int)%2=1;omega
    ·show(-(Q:Int))%2=1;omega
   ·cases (isNeg x.1 !=isNeg y.1) <;> simp <;> constructor <;> grind
 have za:z.natAbs=Q:=by rw[hz];exact kB _ _
 have bLO:R.ab q=R.ab w*R.pz e:=by rw[vq,R.fS,R.bN (bRD pe)]
 have bFF:=R.dS (2-p);unfold bR.lO
 by_cases c:(bl z.natAbs:Int)-p<=0
 ·rw[if_pos c];dsimp only;have aSO:(z:Rat)=w:=by
   rcases aYK with h |⟨h,_⟩
   ·exact h
   ·exfalso;have Ou:x.1.natAbs≠0:=by
     intro h0;rw[h0]at hQ;have:Q=0:=by
      rw[<-hQ];unfold bS.Pl;rw[Nat.zero_mul,bVQ,Nat.zero_mod,if_pos rfl]
     omega
    have:=aVL Ou (by omega);rw[za]at c;omega
  have:=R.aG (bRD bFF) bLP;rw[aSO,<-vq];constructor <;> (intro _;constructor <;> grind)
 ·rw[if_neg c];dsimp only;obtain⟨k,hk⟩:=bQY (show 0<=(bl z.natAbs:Int)-p by omega);rw[hk,bPS,R.dT];obtain⟨c1,c2⟩:=aJS up (z:=z) (v:=w) (k:=k) (by omega) aYK;have lit:((2^k:Nat):Rat)<=R.pz (2-p)*R.ab w:=by
   have Yt:z≠0:=by intro h0;rw[h0]at c;exact c (by show(bl 0:Int)-p<=0;rw[Fj];omega)
   have t1:=(rU (p:=(z,0)) Yt).1;have ez:R.qz (z,0)=(z:Rat):=by unfold R.qz;dsimp only;rw[R.fC];grind
   rw[ez]at t1;have et:bC (z,0)=(bl z.natAbs:Int)-1:=by unfold bC;dsimp only;omega
   rw[et]at t1;have b2:2<=bl z.natAbs:=by omega
   have aw:R.ab (z:Rat)-1<=R.ab w:=by
    rcases aYK with h |⟨_,h1,h2⟩
    ·rw[h];grind
    ·have:=R.Hx w ((z:Rat)-w);have:R.ab ((z:Rat)-w)<=1:=by rw[R.dY];constructor <;> grind
     have:w+((z:Rat)-w)=(z:Rat):=by grind
     grind
   have e1:R.pz ((bl z.natAbs:Int)-1)=2*R.pz ((bl z.natAbs:Int)-2):=by rw[<-R.jG];congr 1;omega
   have e2:1<=R.pz ((bl z.natAbs:Int)-2):=by rw[<-R.fC];exact R.dM (by omega)
   have e3:((2^k:Nat):Rat)=R.pz (2-p)*R.pz ((bl z.natAbs:Int)-2):=by rw[<-R.mD,<-R.oF,<-hk];congr 1;omega
   rw[e3];have:=R.aG (bRD bFF) (show 0<=R.ab w-R.pz ((bl z.natAbs:Int)-2) by grind);grind
  rw[bLO,vq];have l2:=R.aG (bRD pe) (show 0<=R.pz (2-p)*R.ab w-((2^k:Nat):Rat) by grind);generalize (iK.mU up z k:Rat)=cz at *;generalize ((2^k:Nat):Rat)=K at *;generalize R.pz (2-p)=P2 at *;generalize R.pz e=E at *;generalize R.ab w=aw at *;constructor
  ·intro hu;obtain⟨d1,d2⟩:=c1 hu;have m1:=R.aG (bRD pe) (show 0<=w-cz*K by grind);have m2:=R.aG (bRD pe) (show 0<=cz*K+K-w by grind);constructor <;> grind
  ·intro hu;obtain⟨d1,d2⟩:=c2 hu;have m1:=R.aG (bRD pe) (show 0<=cz*K-w by grind);have m2:=R.aG (bRD pe) (show 0<=w+K-cz*K by grind);constructor <;> grind
theorem aNF(up:Bool){x y:Int×Int}{p:Int}(hp:1<=p/\p<=70000)(bx:bl x.1.natAbs<=100000)(b_y:bl y.1.natAbs<=100000)(ex:-110000<=x.2/\x.2<=1000)(ey:-110000<=y.2/\y.2<=1000) :
  fM (bS.rZ up p x y).1 (bS.rZ up p x y).2=true/\bl (aL (bS.rZ up p x y).1 (bS.rZ up p x y).2).1.natAbs<=70001:=by
 unfold bS.rZ bS.aRX;dsimp only;have hs:bS.yO p x.1.natAbs y.1.natAbs<=170002:=by unfold bS.yO;omega
 have hQ:bl (bS.Pl x.1.natAbs y.1.natAbs (bS.yO p x.1.natAbs y.1.natAbs))<=270006:=by
  have h1:bl (x.1.natAbs*2^(bS.yO p x.1.natAbs y.1.natAbs))<=270002:=bMS (aGX.aKB bx) (by omega);have h2:bS.Pl x.1.natAbs y.1.natAbs (bS.yO p x.1.natAbs y.1.natAbs)<=x.1.natAbs*2^(bS.yO p x.1.natAbs y.1.natAbs)*2+1:=by
   have:x.1.natAbs*2^(bS.yO p x.1.natAbs y.1.natAbs)/y.1.natAbs<=x.1.natAbs*2^(bS.yO p x.1.natAbs y.1.natAbs):=bUJ _ _;unfold bS.Pl;generalize x.1.natAbs*2^(bS.yO p x.1.natAbs y.1.natAbs)/y.1.natAbs=A at *;generalize x.1.natAbs*2^(bS.yO p x.1.natAbs y.1.natAbs)=B at *;split <;> omega
  refine bMS (gN h2) (bMS (yD _ _) ?_);have h3:=Cu (x.1.natAbs*2^(bS.yO p x.1.natAbs y.1.natAbs)) 2;have h4:bl 2=2:=rfl;have h5:bl 1=1:=rfl;omega
 generalize bS.yO p x.1.natAbs y.1.natAbs=s at *;generalize bS.Pl x.1.natAbs y.1.natAbs s=Q at *;have hz:(zs (isNeg x.1 !=isNeg y.1) Q).natAbs=Q:=kB _ _;rw[<-hz]at hQ;generalize zs (isNeg x.1 !=isNeg y.1) Q=z at *;unfold bR.lO;split
 ·dsimp only;exact⟨fJ (by omega) (by omega),bMS (oT _ _) (by omega)⟩
 ·dsimp only;have hc:=Ue up z ((bl z.natAbs:Int)-p).toNat p.toNat (by omega);generalize iK.mU up z ((bl z.natAbs:Int)-p).toNat=c at *;exact⟨fJ (by omega) (by omega),bMS (oT _ _) (by omega)⟩
theorem Qv{a b u v S C V ρ m q1 q2:Rat}(ha:a+m<=S)(hb:S+m<=b)(aWX:b-a<=ρ*S)(hu:u+m<=C)(hv:C+m<=v)(huv:v-u<=ρ*C)(m0:0<=m)(S0:0<S)(C0:0<C)(C1:C<=1)(r0:0<=ρ)(r1:ρ<=1/64)(hV:V*C=S)(h1:q1*v=a)(h2:q2*u=b) :
  q1+m<=V/\V+m<=q2/\q2<=V+3*ρ*V/\V-2*ρ*V<=q1/\0<V/\0<=q1:=by
 have rS:=R.aG (bRD S0) (show 0<=1/64-ρ by grind);have rC:=R.aG (bRD C0) (show 0<=1/64-ρ by grind);have a0:0<a:=by grind
 have u0:0<u:=by grind
 have v0:0<v:=by grind
 have V0:0<V:=by
  refine Rat.not_le.1 fun hn=>?_
  have:=R.aG (show 0<=-V by grind) (bRD C0);grind
 have aXO:0<q1:=by
  refine Rat.not_le.1 fun hn=>?_
  have:=R.aG (show 0<=-q1 by grind) (bRD v0);grind
 have bGI:0<q2:=by
  refine Rat.not_le.1 fun hn=>?_
  have:=R.aG (show 0<=-q2 by grind) (bRD u0);grind
 have mC:=R.aG m0 (show 0<=1-C by grind);have rV:=R.aG r0 (bRD V0);have bCZ:=R.aG rV (bRD C0);have rr:=R.aG bCZ (show 0<=1/64-ρ by grind);have rq:=R.aG bCZ r0;refine⟨?_,?_,?_,?_,V0,bRD aXO⟩
 ·refine R.dK C0 ?_;have:=R.aG (bRD aXO) (show 0<=v-C by grind);grind
 ·refine R.dK C0 ?_;have:=R.aG (bRD bGI) (show 0<=C-u by grind);grind
 ·refine R.dK u0 ?_;have h:=R.aG (show 0<=V+3*ρ*V by grind) (show 0<=u-(C-ρ*C) by grind);have e:(V+3*ρ*V)*(C-ρ*C)=V*C+2*(ρ*V*C)-3*(ρ*V*C*ρ):=by grind
  have e2:ρ*S=ρ*V*C:=by rw[<-hV];grind
  grind
 ·refine R.dK v0 ?_;have h:=R.aG (show 0<=V-2*ρ*V by have:=R.aG (bRD V0) (show 0<=1/64-ρ by grind);grind) (show 0<=(C+ρ*C)-v by grind);have e:(V-2*ρ*V)*(C+ρ*C)=V*C-ρ*V*C-2*(ρ*V*C*ρ):=by grind
  have e2:ρ*S=ρ*V*C:=by rw[<-hV];grind
  grind
theorem Xu{p:Int×Int}:decide (bZ p (0,0)<0)=decide (R.qz p<0):=by
 have h:=vB (p:=p) (q:=(0,0));rw[R.nA (p:=(0,0)) rfl]at h
 by_cases c:R.qz p<0
 ·rw[decide_eq_true c,decide_eq_true (h.2 c)]
 ·rw[decide_eq_false c,decide_eq_false fun hh=>c (h.1 hh)]
def Rs(p:Int×Int):Prop:=bl p.1.natAbs<=100000/\-110000<=p.2/\p.2<=1000
theorem Lw{p:Int×Int}(hb:bl p.1.natAbs<=100000)(Dp:p.1≠0)(h0:R.pz (-1300)<=R.ab (R.qz p))(h1:R.ab (R.qz p)<=2):Rs p:=by
 have a:=Fs Dp h0;have b:bC p<=1:=xR Dp (by rw[R.aCJ];exact h1);have c:=qE (n:=p.1.natAbs) (by omega);unfold bC at a b;exact⟨hb,by omega,by omega⟩
theorem Wi{s c:(Int×Int)×(Int×Int)}{S C V ρ m:Rat}{p:Int}(hs:Bx s S (ρ*R.ab S) m)(hc:Bx c C (ρ*R.ab C) m)(S0:S≠0)(C0:0<C)(C1:C<=1)(r0:0<=ρ)(r1:ρ<=1/64)(hV:V*C=S)(hp:4<=p/\p<=70000)
  (z1:Rs s.1) (z2:Rs s.2) (z3:Rs c.1) (z4:Rs c.2) :
  fM (iX.aAH p s.1 c.1 c.2).1 (iX.aAH p s.1 c.1 c.2).2=true/\fM (iX.aAI p s.2 c.1 c.2).1 (iX.aAI p s.2 c.1 c.2).2=true /\
  Bx (aL (iX.aAH p s.1 c.1 c.2).1 (iX.aAH p s.1 c.1 c.2).2,aL (iX.aAI p s.2 c.1 c.2).1 (iX.aAI p s.2 c.1 c.2).2) V ((5*ρ+3*R.pz (2-p))*R.ab V) m:=by
 obtain⟨s1,s2,s3,s4,m0,s6,s7,s8⟩:=hs;obtain⟨c1,c2,c3,c4,_,c6,c7,c8⟩:=hc;rw[R.bN (bRD C0)]at c8;have rC:=R.aG (bRD C0) (show 0<=1/64-ρ by grind);have u0:0<R.qz c.1:=by grind
 have v0:0<R.qz c.2:=by grind
 have un:c.1.1≠0:=Kl (by grind);have vn:c.2.1≠0:=Kl (by grind);have e2:=R.dS (2-p);have e3:R.pz (2-p)<=1/4:=by
  have h:=R.dM (show 2-p<=-2 by omega);have h2:=R.zC 2;rw[show -((2:Nat):Int)=-2 by rfl]at h2;rw[h2]at h;have h3:R.hf 2=1/4:=by simp[R.hf];grind
  grind
 have qJ:∀up (x y:Int×Int),Rs x->Rs y->fM (bS.rZ up p x y).1 (bS.rZ up p x y).2=true/\iS (aL (bS.rZ up p x y).1 (bS.rZ up p x y).2)/\bl (aL (bS.rZ up p x y).1 (bS.rZ up p x y).2).1.natAbs<=100000:=by
  intro up x y hx hy;obtain⟨h1,h2⟩:=aNF up (x:=x) (y:=y) (p:=p) (by omega) hx.1 hy.1 hx.2 hy.2;refine⟨h1,⟨by omega,?_,fun h=>zF h,fun h=>Gs h⟩,by omega⟩;unfold fM at h1;unfold aL;split
  ·dsimp only;omega
  ·rename_i Dp;rw[decide_eq_false Dp,bNX,bMC]at h1;exact⟨of_decide_eq_true h1.1,of_decide_eq_true h1.2⟩
 have aFB:∀a b:Rat,b≠0->a/b*b=a:=fun a b h=>by grind
 unfold iX.aAH iX.aAI;rw[Xu,Xu]
 by_cases hS:0<S
 ·rw[R.bN (bRD hS)]at s8;have rS:=R.aG (bRD hS) (show 0<=1/64-ρ by grind);rw[decide_eq_false (show ¬R.qz s.1<0 by grind),decide_eq_false (show ¬R.qz s.2<0 by grind),cond_false,cond_false];obtain⟨d1,d2,d3,d4,V0,q0⟩:=Qv (q1:=R.qz s.1/R.qz c.2) (q2:=R.qz s.2/R.qz c.1) s6 s7 s8 c6 c7 c8 m0 hS C0 C1 r0 r1 hV (aFB _ _ (by grind)) (aFB _ _ (by grind));have n1:=(Ey false (x:=s.1) (y:=c.2) (p:=p) (q:=R.qz s.1/R.qz c.2) (by omega) vn (aFB _ _ (by grind))).1 rfl;have n2:=(Ey true (x:=s.2) (y:=c.1) (p:=p) (q:=R.qz s.2/R.qz c.1) (by omega) un (aFB _ _ (by grind))).2 rfl;obtain⟨i1,p1,b1⟩:=qJ false s.1 c.2 z1 z4;obtain⟨i2,p2,b2⟩:=qJ true s.2 c.1 z2 z3;rw[R.bN q0]at n1;rw[R.bN (show 0<=R.qz s.2/R.qz c.1 by grind)]at n2;refine⟨i1,i2,p1,p2,b1,b2,m0,by grind,by grind,?_⟩;rw[R.bN (bRD V0)];generalize R.qz s.1/R.qz c.2=q1 at *;generalize R.qz s.2/R.qz c.1=q2 at *;have k1:=R.aG (bRD e2) (show 0<=V+3*ρ*V-q2 by grind);have k2:=R.aG (bRD e2) (show 0<=V-q1 by grind);have k3:=R.aG (R.aG (bRD e2) (bRD V0)) (show 0<=1/64-ρ by grind);dsimp only;grind
 ·have bEX:0 < -S:=by grind
  have eS:R.ab S=-S:=by unfold R.ab;rw[if_neg (by grind)]
  rw[eS]at s8;have rS:=R.aG (bRD bEX) (show 0<=1/64-ρ by grind);rw[decide_eq_true (show R.qz s.1<0 by grind),decide_eq_true (show R.qz s.2<0 by grind),cond_true,cond_true];have f1:-(R.qz s.2/R.qz c.2)*R.qz c.2=-R.qz s.2:=by have:=aFB (R.qz s.2) (R.qz c.2) (by grind);grind
  have f2:-(R.qz s.1/R.qz c.1)*R.qz c.1=-R.qz s.1:=by have:=aFB (R.qz s.1) (R.qz c.1) (by grind);grind
  obtain⟨d1,d2,d3,d4,V0,q0⟩:=Qv (V:=-V) (a:=-R.qz s.2) (b:=-R.qz s.1) (S:=-S) (q1:=-(R.qz s.2/R.qz c.2)) (q2:=-(R.qz s.1/R.qz c.1)) (by grind) (by grind) (by grind) c6 c7 c8 m0 bEX C0 C1 r0 r1 (by grind) f1 f2;have n1:=(Ey false (x:=s.1) (y:=c.1) (p:=p) (q:=R.qz s.1/R.qz c.1) (by omega) un (aFB _ _ (by grind))).1 rfl;have n2:=(Ey true (x:=s.2) (y:=c.2) (p:=p) (q:=R.qz s.2/R.qz c.2) (by omega) vn (aFB _ _ (by grind))).2 rfl;obtain⟨i1,p1,b1⟩:=qJ false s.1 c.1 z1 z3;obtain⟨i2,p2,b2⟩:=qJ true s.2 c.2 z2 z4;rw[<-R.gT,R.bN (show 0<=-(R.qz s.1/R.qz c.1) by grind)]at n1;rw[<-R.gT,R.bN q0]at n2;refine⟨i1,i2,p1,p2,b1,b2,m0,by grind,by grind,?_⟩;rw[<-R.gT,R.bN (bRD V0)];generalize R.qz s.2/R.qz c.2=q1 at *;generalize R.qz s.1/R.qz c.1=q2 at *;have k1:=R.aG (bRD e2) (show 0<=-V+3*ρ*-V+q2 by grind);have k2:=R.aG (bRD e2) (show 0<=-V+q1 by grind);have k3:=R.aG (R.aG (bRD e2) (bRD V0)) (show 0<=1/64-ρ by grind);dsimp only;grind
theorem Er{p:Int×Int}(h:Rs p):Rs (jM.uS p):=by
 obtain⟨a,b⟩:=h;refine⟨?_,b⟩;show bl (-p.1).natAbs<=_;rw[bSQ];exact a
theorem aCD{a b:Int×Int}(h:0<R.qz a)(aWX:R.qz a<=R.qz b):gL.wJ a b=1:=by
 unfold gL.wJ;have z:R.qz (0,0)=0:=R.nA rfl;rw[if_neg (fun hh=>by have:=vB.1 hh;grind),if_pos (nD.2 (by grind))]
theorem aCE{a b:Int×Int}(h:R.qz b<0):gL.wJ a b=-1:=by
 unfold gL.wJ;have z:R.qz (0,0)=0:=R.nA rfl;rw[if_pos (vB.2 (by grind))]
theorem aNE{s c:(Int×Int)×(Int×Int)}{S C V ρ m:Rat}{p:Int}(hs:Bx s S (ρ*R.ab S) m)(hc:Bx c C (ρ*R.ab C) m)(S0:S≠0)(C0:C≠0)(C1:R.ab C<=1)(r0:0<=ρ)(r1:ρ<=1/64)(hV:V*C=S)(hp:4<=p/\p<=70000)
  (z1:Rs s.1) (z2:Rs s.2) (z3:Rs c.1) (z4:Rs c.2) :
  gL.wJ c.1 c.2≠0/\fM (iX.Oo p s.1 s.2 c.1 c.2).1 (iX.Oo p s.1 s.2 c.1 c.2).2=true/\fM (iX.Oq p s.1 s.2 c.1 c.2).1 (iX.Oq p s.1 s.2 c.1 c.2).2=true /\
  Bx (aL (iX.Oo p s.1 s.2 c.1 c.2).1 (iX.Oo p s.1 s.2 c.1 c.2).2,aL (iX.Oq p s.1 s.2 c.1 c.2).1 (iX.Oq p s.1 s.2 c.1 c.2).2) V ((5*ρ+3*R.pz (2-p))*R.ab V) m:=by
 have lo:=hc.lo;have hi:=hc.hi;have m0:=hc.m0;have wd:=hc.wd
 by_cases c0:0<C
 ·rw[R.bN (bRD c0)]at C1 wd;have rC:=R.aG (bRD c0) (show 0<=1/64-ρ by grind);have sg:=aCD (a:=c.1) (b:=c.2) (by grind) (by grind);unfold iX.Oo iX.Oq;rw[sg,show((1:Int)==-1)=false from rfl];simp only[cond_false];exact⟨by decide,Wi hs hc S0 c0 C1 r0 r1 hV hp z1 z2 z3 z4⟩
 ·have e:R.ab C=-C:=by unfold R.ab;rw[if_neg (by grind)]
  rw[e]at C1 wd;have rC:=R.aG (show 0<=-C by grind) (show 0<=1/64-ρ by grind);have sg:=aCE (a:=c.1) (b:=c.2) (by grind);unfold iX.Oo iX.Oq;rw[sg,show((-1:Int)==-1)=true from rfl];simp only[cond_true];have nY:=hs.neg;have bEQ:=hc.neg;rw[<-R.gT]at nY bEQ;have s0:-S≠0:=by grind
  have c1:0 < -C:=by grind
  have v1:V*-C=-S:=by grind
  have q:=Wi nY bEQ s0 c1 C1 r0 r1 v1 hp (Er z2) (Er z1) (Er z4) (Er z3);dsimp only at q;exact⟨by decide,q⟩
theorem Fa{s:(Int×Int)×(Int×Int)}{V W m:Rat}{n:Int}(pl:iS s.1)(ph:iS s.2)(m0:0<=m)(lo:R.qz s.1+m<=V)(hi:V+m<=R.qz s.2)(wd:R.qz s.2-R.qz s.1<=W)(hn:1<=n/\n<=70000)(h1:R.ab (R.qz s.1)<=R.pz 1100)(h2:R.ab (R.qz s.2)<=R.pz 1100) :
  nT false s.1 n=true/\nT true s.2 n=true/\Bx (shD false s.1 n,shD true s.2 n) V (W+R.pz (1-n)*(R.ab (R.qz s.1)+R.ab (R.qz s.2))) m:=by
 have aLJ:∀{p:Int×Int},iS p->R.ab (R.qz p)<=R.pz 1100->aXF p:=by
  intro p hp hv;refine⟨hp,?_⟩
  by_cases h0:p.1=0
  ·have hb:M.bl p.1.natAbs=0:=by rw[h0];rfl
   have:=hp.2.2.1 h0;omega
  ·have:=xR h0 hv;unfold bC at this;omega
 obtain⟨a1,a2⟩:=Kd (up:=false) (n:=n) (aLJ pl h1) hn.1;obtain⟨a3,a4⟩:=Kd (up:=true) (n:=n) (aLJ ph h2) hn.1;have n1:=(Bv false s.1 hn.1).1 rfl;have n2:=(Bv true s.2 hn.1).2 rfl;have b1:=wI false s.1 n.toNat;have b2:=wI true s.2 n.toNat;rw[show((n.toNat:Nat):Int)=n by omega]at b1 b2;exact⟨a1,a3,a2,a4,by dsimp only;omega,by dsimp only;omega,m0,by dsimp only;grind,by dsimp only;grind,by dsimp only;grind⟩
theorem aNK{s:(Int×Int)×(Int×Int)}{V W m:Rat}{n:Int}(h:Bx s V W m)(hn:1<=n/\n<=70000)(h1:R.ab (R.qz s.1)<=R.pz 1100)(h2:R.ab (R.qz s.2)<=R.pz 1100) :
  nT false s.1 n=true/\nT true s.2 n=true/\Bx (shD false s.1 n,shD true s.2 n) V (W+R.pz (1-n)*(R.ab (R.qz s.1)+R.ab (R.qz s.2))) m :=
 Fa h.pl h.ph h.m0 h.lo h.hi h.wd hn h1 h2
end M
namespace W
open Go AI M
namespace oQ
def Kb(x:dR):Prop:=aJ x/\((dv x).1≠0->bZ (((dv x).1.natAbs:Nat),(dv x).2) (1,0)<=0/\-524288<=(dv x).2+(bl (dv x).1.natAbs:Nat)-1)
end oQ
namespace nI
def E:=mE [(61,kA.aH),(113,Jz.aH),(24,aGV.aH),(153,Bo.aH)] 62 [] [(10,[30,31,32]),(4,[1,20,21,22]),(3,[1])] [3]
def aE:=bd f192
theorem aU:Nk E aE:=nk
def J3(a:Nat)(b:Nat->Bool)(c:Nat->List Int)(d:Nat->Int):=kV E f192 aE 3 [(A.v (V.one (L.rows 3 a fun i=>[sc (bool (b i)),ints u64 (c i),sc (int i64 (d i))])),none)]
def L4(a:Nat)(b:Nat->Bool)(c:Nat->List Int)(d:Nat->Int)(e:Nat)(f:Nat->Bool)(g:Nat->List Int)(h:Nat->Int) j k:=nO E f192 aE 4 [(A.v (V.one (L.rows 3 a fun i=>[sc (bool (b i)),ints u64 (c i),sc (int i64 (d i))])),none),(A.v (V.one (L.rows 3 e fun i=>[sc (bool (f i)),ints u64 (g i),sc (int i64 (h i))])),none),bP j,bP k]
def Im(a:Nat)(b:Nat->Bool)(c:Nat->List Int)(d:Nat->Int) e f:=nO E f192 aE 10 [(A.v (V.one (L.rows 3 a fun i=>[sc (bool (b i)),ints u64 (c i),sc (int i64 (d i))])),none),bP e,bP f]
theorem start p (a:dR) (b:dR):aF E f192 aE [D.s (sc (int i64 p)),D.rows 3 2 fun i=>[sc (bool (t2 a b i).fst),ints u64 (t2 a b i).snd.fst,sc (int i64 (t2 a b i).snd.snd)]]=letI A:=some [D.s (sc (int i64 1))];aB (decide (p<1)) A (aB (decide (67000<p)) A (nI.J3 2 (fun i=>(t2 a b i).fst) (fun i=>(t2 a b i).snd.fst) fun i=>(t2 a b i).snd.snd)):=eJ aU
theorem fR a b c d:J3 a b c d=nI.L4 a (fun i=>b i) (fun i=>c i) (fun i=>d i) a (fun i=>b i) (fun i=>c i) (fun i=>d i) (a:Int) 0:=cJ aU
theorem kS a b c d e f g h j k:L4 a b c d e f g h j k=aB (decide (k<j)) (if 0<=k/\k<(e:Int)then aO (aJ (f k.toNat,g k.toNat,h k.toNat)) (nI.L4 a (fun i=>b i) (fun i=>c i) (fun i=>d i) e (fun i=>f i) (fun i=>g i) (fun i=>h i) j (i64.wrap (k+1)))else none) (nI.Im a (fun i=>b i) (fun i=>c i) (fun i=>d i) (a:Int) 0):=lJ aU
theorem sM a b c d e f:Im a b c d e f=letI F:=some [D.s (sc (int i64 5))];letI C:=(b f.toNat,c f.toNat,d f.toNat);letI B:=(false,c f.toNat,d f.toNat);letI A:=(isNeg (aL 1 0).fst,M6.dg (aL 1 0).fst.natAbs,(aL 1 0).snd);aB (decide (f<e)) (if 0<=f/\f<(a:Int)then aB ((↑(c f.toNat).length:Int)==(0:Int)) (nI.Im a (fun i=>b i) (fun i=>c i) (fun i=>d i) e (i64.wrap (f+1))) (aO ((-9223372036854775808:Int)<=(1:Int)/\(1:Int)<(9223372036854775808:Int)) (aO (aJ B/\aJ A) (aO (aJ C) (aB (decide (0<lE (bA.lH (dv B) (dv A)) (bA.lG (dv B) (dv A)))) F (aB (decide ((if(dv C).fst=0 then(0:Int)else d f.toNat+(↑(bl (M6.val (c f.toNat))):Int)-(1:Int))<(-524288:Int))) F (nI.Im a (fun i=>b i) (fun i=>c i) (fun i=>d i) e (i64.wrap (f+1))))))))else none) (some [D.s (sc (int i64 0))]):=lJ aU
abbrev Kb:=oQ.Kb
def sp(p:Int)(a:dR×dR):Prop×List D:=((1<=p/\p<=67000)/\Kb a.1/\Kb a.2,[.s (.sc (.int .i64 0))])
theorem LB(n:Nat)(f:Nat->dR)(hn:n<=1000)(hf:∀i,i<n->Kb (f i)):∀d k:Nat,k+d=n->Im n (fun i=>(f i).1) (fun i=>(f i).2.1) (fun i=>(f i).2.2) (n:Int) (k:Int)=some [.s (.sc (.int .i64 0))]
 |0,k,h=>by rw[sM,aI]
 |d+1,k,h=>by
  have e:i64.wrap ((k:Int)+1)=((k+1:Nat):Int):=by rw[wrap_i64];omega
  have r:=LB n f hn hf d (k+1) (by omega);obtain⟨hx,ht⟩:=hf k (by omega);have hz:=M6.cS hx.Iu;have ha:(dv (f k)).1.natAbs=M6.val (f k).2.1:=iW ((f k).1,(f k).2.1);rw[sM,aN,aT,bPS,e]
  by_cases h0:(f k).2.1.length=0
  ·rw[cN];exact r
  ·have hv:(dv (f k)).1≠0:=fun hc=>h0 (hz.2 (by omega))
   obtain⟨t1,t2⟩:=ht hv;have n1:aL 1 0=(1,0):=by decide +kernel
   have pn:iS (1,0):=⟨by decide +kernel,⟨by decide,by decide⟩,fun h=>absurd h (by decide),fun _=>by decide⟩;have v1:=cT ((1,0):Int×Int);have ok:aJ (false,(f k).2.1,(f k).2.2):=⟨⟨hx.1.1,fun hf=>(by cases hf),hx.1.len⟩,hx.2⟩;have vx:dv (false,(f k).2.1,(f k).2.2)=((((dv (f k)).1.natAbs:Nat):Int),(dv (f k)).2):=by rw[ha];rfl
   have bJI:((f k).1,(f k).2.1,(f k).2.2)=f k:=rfl;simp only[n1,v1,vx,bJI];rw[bV,gP ⟨by decide,by decide⟩,gP ⟨ok,cK pn⟩,gP hx];have bGB:¬0<lE (bA.lH ((((dv (f k)).1.natAbs:Nat):Int),(dv (f k)).2) (1,0)) (bA.lG ((((dv (f k)).1.natAbs:Nat):Int),(dv (f k)).2) (1,0)):=Int.not_lt.2 t1;have bGA:¬(f k).2.2+((bl (M6.val (f k).2.1):Nat):Int)-1 < -524288:=by
    rw[ha]at t2;have:(dv (f k)).2=(f k).2.2:=rfl;omega
   rw[aI bGB,if_neg hv,aI bGA];exact r
theorem LA(n:Nat)(f:Nat->dR)(hn:n<=1000)(hf:∀i,i<n->Kb (f i)):∀d k:Nat,k+d=n->L4 n (fun i=>(f i).1) (fun i=>(f i).2.1) (fun i=>(f i).2.2) n (fun i=>(f i).1) (fun i=>(f i).2.1) (fun i=>(f i).2.2) (n:Int) (k:Int)=some [.s (.sc (.int .i64 0))]
 |0,k,h=>by rw[kS,aI];exact LB n f hn hf n 0 (by omega)
 |d+1,k,h=>by
  have e:i64.wrap ((k:Int)+1)=((k+1:Nat):Int):=by rw[wrap_i64];omega
  rw[kS,aN,aT,bPS,gP (hf k (by omega)).1,e];exact LA n f hn hf d (k+1) (by omega)
theorem spec:fI E f192 aE (pN .i64) (aAJ (.pair sB (.pair (sI .u64) (sN .i64))) (false,[],0)) sp:=by
 rintro p a ⟨⟨p0,p1⟩,h⟩;have hf:∀i,i<2->Kb (t2 a.1 a.2 i):=fun i hi=>by
  obtain rfl |rfl:i=0\/i=1:=by omega
  ·exact h.1
  ·exact h.2
 refine(start p a.1 a.2).trans ?_;rw[aI,aI,fR];exact LA 2 (fun i=>t2 a.1 a.2 i) (by decide) hf 2 0 (by omega)
def aH:dG:=orc2 (pN .i64) (aAJ (.pair sB (.pair (sI .u64) (sN .i64))) (false,[],0)) sp
theorem ok:OK 192 aH:=(eF E aE (aA kA.ok (aA Jz.ok (aA aGV.ok (aA Bo.ok aD)))) func192).lA rfl spec
end nI
namespace Cz
def E:=mE [(45,pO.aH),(192,nI.aH)] 21 [20] [(3,[1,2])] [3]
def aE:=bd f150
theorem aU:Nk E aE:=nk
def J3 a b c d e f g:=kV E f150 aE 3 [bP a,cQ 1 31 [bW b,dZ c,cI d,bW e,dZ f,cI g]]
theorem start a c d e f g b:aF E f150 aE [D.agg [sc (bool a),ints u64 c,sc (int i64 d),sc (bool e),ints u64 f,sc (int i64 g)],D.s (sc (int i64 b))]=letI A:=some [D.s (sc (int i64 1))];aB (decide (b<1)) A (aB (decide (67000<b)) A (Cz.J3 b a c d e f g)):=eJ aU
theorem fR a b c d e f g:J3 a b c d e f g=aO (dP (b,c,d,e,f,g)) (aO ((1<=a/\a<=67000)/\nI.Kb (b,c,d)/\nI.Kb (e,f,g)) (some [D.s (sc (int i64 0))])):=cJ aU
def sp(s:qN)(p:Int):Prop×List D:=((1<=p/\p<=67000)/\dP s/\oQ.Kb (fB s)/\oQ.Kb (fF s),[.s (.sc (.int .i64 0))])
theorem spec:fI E f150 aE qK (pN .i64) sp:=by
 rintro s p ⟨⟨p0,p1⟩,h1,h2,h3⟩;refine(start s.1 s.2.1 s.2.2.1 s.2.2.2.1 s.2.2.2.2.1 s.2.2.2.2.2 p).trans ?_;rw[aI,aI]
 first
  |exact(gP h1).trans (gP ⟨⟨p0,p1⟩,h2,h3⟩)
  | (rw[fR];exact(gP h1).trans (gP ⟨⟨p0,p1⟩,h2,h3⟩))
def aH:dG:=orc2 qK (pN .i64) sp
theorem ok:OK 150 aH:=(eF E aE (aA pO.ok (aA nI.ok aD)) func150).lA rfl spec
end Cz
namespace cU
def E:=mE [(150,Cz.aH),(62,zO.aH),(113,Jz.aH),(58,gL.aH),(152,bD.aH)] 61 [17] [(10,[1,2,4,9,10]),(13,[1,4,9,10])] [10,13]
def aE:=bd f95
theorem aU:Nk E aE:=nk
def aHN a b c d e f g h i j k l m n o p q:=kV E f95 aE 10 [bP a,cQ 1 31 [bW b,dZ c,cI d,bW e,dZ f,cI g],cQ 2 31 [bW h,sc (slice none 0 0),cI i,bW j,sc (slice none 0 0),cI k],cQ 3 29 [bW l,dZ m,cI n],cQ 4 29 [bW o,dZ p,cI q]]
def Rx a b c d e f g h i j:=kV E f95 aE 13 [bP a,cQ 1 31 [bW b,sc (slice none 0 0),cI c,bW d,sc (slice none 0 0),cI e],cQ 2 29 [bW f,sc (slice none 0 0),cI g],cQ 3 29 [bW h,dZ i,cI j]]
def aQD a b c d e f g h i j k:=kV E f95 aE 13 [bP a,cQ 1 31 [bW b,sc (slice none 0 0),cI c,bW d,sc (slice none 0 0),cI e],cQ 2 29 [bW f,dZ g,cI h],cQ 3 29 [bW i,dZ j,cI k]]
theorem start a c d e f g b:aF E f95 aE [D.agg [sc (bool a),ints u64 c,sc (int i64 d),sc (bool e),ints u64 f,sc (int i64 g)],D.s (sc (int i64 b))]=letI C:=(false,f,g);letI B:=(false,c,d);letI A:=(a,c,d,e,f,g);aO ((1<=b/\b<=67000)/\dP A/\oQ.Kb (fB A)/\oQ.Kb (fF A)) (aO (aJ B/\aJ C) (aC (lE (bA.lH (dv B) (dv C)) (bA.lG (dv B) (dv C))) fun h=>aB (decide (0<h)) (cU.aHN b a c d e f g false 0 false 0 false f g false c d) (cU.aHN b a c d e f g false 0 false 0 false c d false f g))):=eJ aU
theorem Vf a b c d e f g h i j k l m n o p q:aHN a b c d e f g h i j k l m n o p q=letI A:=(b,c,d,e,f,g);aO (dP A) (aC (gL.wJ (dv (fB A)) (dv (fF A))) fun r=>aB (r==0) (cU.Rx a h i j k false 0 o p q) (cU.aQD a h i j k l m n o p q)):=cJ aU
theorem zU a b c d e f g h i j:Rx a b c d e f g h i j=letI A:=i64.wrap (a+2);letI C:=bD.rD (dv (h,i,j)) A;letI B:=bD.qD (dv (f,[],g)) A;aO (bD.Zv (h,i,j) A) (aC (isNeg C.fst) fun k=>aC (M6.dg C.fst.natAbs) fun l=>aC C.snd fun m=>aO (bD.Zv (f,[],g) A) (aC (isNeg B.fst) fun n=>aC (M6.dg B.fst.natAbs) fun o=>aC B.snd fun p=>some [D.agg [sc (bool k),ints u64 l,sc (int i64 m),sc (bool n),ints u64 o,sc (int i64 p)],D.s (sc (int i64 0))])):=cJ aU
theorem aKN a b c d e f g h i j k:aQD a b c d e f g h i j k=letI A:=i64.wrap (a+2);letI C:=bD.qD (dv (f,g,h)) A;letI B:=bD.rD (dv (i,j,k)) A;aO (bD.Zv (i,j,k) A) (aC (isNeg B.fst) fun l=>aC (M6.dg B.fst.natAbs) fun m=>aC B.snd fun n=>aO (bD.Zv (f,g,h) A) (aC (isNeg C.fst) fun o=>aC (M6.dg C.fst.natAbs) fun p=>aC C.snd fun q=>some [D.agg [sc (bool l),ints u64 m,sc (int i64 n),sc (bool o),ints u64 p,sc (int i64 q)],D.s (sc (int i64 0))])):=cJ aU
def Sk(x:dR):dR:=(false,x.2.1,x.2.2)
def zI(s:qN):dR:=bif decide (0<bZ (dv (Sk (fB s))) (dv (Sk (fF s))))then Sk (fB s)else Sk (fF s)
def sU(s:qN):dR:=bif gL.wJ (dv (fB s)) (dv (fF s))==0 then(false,[],0)else bif decide (0<bZ (dv (Sk (fB s))) (dv (Sk (fF s))))then Sk (fF s)else Sk (fB s)
def aJZ(s:qN)(p:Int):Prop:=((1<=p/\p<=67000)/\dP s/\oQ.Kb (fB s)/\oQ.Kb (fF s))/\(bD.sp (zI s) (p+2)).1/\(bD.sp (sU s) (p+2)).1
def sp(s:qN)(p:Int):Prop×List D:=(aJZ s p,[vU (bD.rD (dv (zI s)) (p+2)) (bD.qD (dv (sU s)) (p+2)),.s (.sc (.int .i64 0))])
theorem JN{s:qN}{p:Int}(hp:1<=p/\p<=67000)(hs:dP s){n f:dR}(hf:(bD.sp f (p+2)).1)(hn:(bD.sp (bif gL.wJ (dv (fB s)) (dv (fF s))==0 then(false,[],0)else n) (p+2)).1) :
  aHN p s.1 s.2.1 s.2.2.1 s.2.2.2.1 s.2.2.2.2.1 s.2.2.2.2.2 false 0 false 0 n.1 n.2.1 n.2.2 f.1 f.2.1 f.2.2=some [vU (bD.rD (dv f) (p+2)) (bD.qD (dv (bif gL.wJ (dv (fB s)) (dv (fF s))==0 then(false,[],0)else n)) (p+2)),.s (.sc (.int .i64 0))]:=by
 have w:i64.wrap (p+2)=p+2:=wrap_i64;rw[Vf,gP hs,aK];show aB (gL.wJ (dv (fB s)) (dv (fF s))==0) _ _=_
 by_cases c:gL.wJ (dv (fB s)) (dv (fF s))=0
 ·rw[show(gL.wJ (dv (fB s)) (dv (fF s))==0)=true from beq_iff_eq.2 c,cond_true]at hn ⊢;show Rx _ _ _ _ _ _ _ _ _ _=_;rw[zU];simp only[w,aK];exact(gP hf).trans ((gP hn).trans rfl)
 ·rw[show(gL.wJ (dv (fB s)) (dv (fF s))==0)=false from beq_eq_false_iff_ne.2 c,cond_false]at hn ⊢;show aQD _ _ _ _ _ _ _ _ _ _ _=_;rw[aKN];simp only[w,aK];exact(gP hf).trans ((gP hn).trans rfl)
theorem spec:fI E f95 aE qK (pN .i64) sp:=by
 rintro s p ⟨h1,h2,h3⟩;refine(start s.1 s.2.1 s.2.2.1 s.2.2.2.1 s.2.2.2.2.1 s.2.2.2.2.2 p).trans ?_;have ab:∀x:dR,aJ x->aJ (Sk x):=fun x hx=>⟨⟨hx.1.1,fun hf=>(by cases hf),hx.1.len⟩,hx.2⟩
 refine(gP h1).trans ((gP ⟨ab _ h1.2.1.1,ab _ h1.2.1.2.1⟩).trans ?_);rw[aK];unfold sp;unfold zI sU at *;dsimp only;show aB (decide (0<bZ (dv (Sk (fB s))) (dv (Sk (fF s))))) _ _=_
 by_cases c:0<bZ (dv (Sk (fB s))) (dv (Sk (fF s)))
 ·rw[aN c];rw[decide_eq_true c,cond_true,cond_true]at *;exact JN h1.1 h1.2.1 h2 h3
 ·rw[aI c];rw[decide_eq_false c,cond_false,cond_false]at *;exact JN h1.1 h1.2.1 h2 h3
def aH:dG:=orc2 qK (pN .i64) sp
theorem ok:OK 95 aH:=(eF E aE (aA Cz.ok (aA zO.ok (aA Jz.ok (aA gL.ok (aA bD.ok aD))))) func95).lA rfl spec
end cU
namespace sK
def E:=mE [(150,Cz.aH),(151,eK.aH)] 27 [9] [] []
def aE:=bd f94
theorem aU:Nk E aE:=nk
theorem start a c d e f g b:aF E f94 aE [D.agg [sc (bool a),ints u64 c,sc (int i64 d),sc (bool e),ints u64 f,sc (int i64 g)],D.s (sc (int i64 b))]=letI F:=(a,c,d,e,f,g);letI A:=i64.wrap (b+2);letI C:=eK.Lv (dv (e,f,g)) A;letI B:=eK.Lu (dv (a,c,d)) A;aO ((1<=b/\b<=67000)/\dP F/\oQ.Kb (fB F)/\oQ.Kb (fF F)) (aO (eK.aIB (a,c,d) A) (aC (isNeg B.fst) fun h=>aC (M6.dg B.fst.natAbs) fun i=>aC B.snd fun j=>aO (eK.aIB (e,f,g) A) (aC (isNeg C.fst) fun k=>aC (M6.dg C.fst.natAbs) fun l=>aC C.snd fun m=>some [D.agg [sc (bool h),ints u64 i,sc (int i64 j),sc (bool k),ints u64 l,sc (int i64 m)],D.s (sc (int i64 0))]))):=eJ aU
def aBU(s:qN)(p:Int):Prop:=((1<=p/\p<=67000)/\dP s/\oQ.Kb (fB s)/\oQ.Kb (fF s))/\(eK.sp (fB s) (p+2)).1/\(eK.sp (fF s) (p+2)).1
def sp(s:qN)(p:Int):Prop×List D:=(aBU s p,[vU (eK.Lu (dv (fB s)) (p+2)) (eK.Lv (dv (fF s)) (p+2)),.s (.sc (.int .i64 0))])
theorem spec:fI E f94 aE qK (pN .i64) sp:=by
 rintro s p ⟨h1,h2,h3⟩;have p0:=h1.1;refine(start s.1 s.2.1 s.2.2.1 s.2.2.2.1 s.2.2.2.2.1 s.2.2.2.2.2 p).trans ?_;have w:i64.wrap (p+2)=p+2:=wrap_i64;simp only[w];rw[gP h1];simp only[aK];exact(gP h2).trans ((gP h3).trans rfl)
def aH:dG:=orc2 qK (pN .i64) sp
theorem ok:OK 94 aH:=(eF E aE (aA Cz.ok (aA eK.ok aD)) func94).lA rfl spec
end sK
end W
namespace R
def fv(fn:Int)(x:Rat)(k:Int):Rat:=if fn=1 then Sf x k else if fn=2 then Cf x k else Sf x k/Cf x k
end R
namespace M
open Go AI W
def mg(p:Int):Rat:=if p<2500 then 0 else R.pz (-p-1500)
theorem aLK(p:Int):0<=mg p:=by
 unfold mg;split
 ·exact bSK
 ·exact bRD (R.dS _)
theorem aLL(p:Int):mg p<=R.pz (-p-1500):=by
 unfold mg;split
 ·exact bRD (R.dS _)
 ·exact bSK
structure kN(u v:Int×Int)(a:Rat)(p:Int):Prop where
 pu:iS u
 pv:iS v
 a0:R.pz (-1074)<=a
 a1:a<=79/100
 lu:R.ab (R.qz u)<=a
 lv:a<=R.ab (R.qz v)
 wd:R.ab (R.qz v)-R.ab (R.qz u)<=R.pz (-p-23)*a
theorem aNG{p:Int}(hp:-6<=p):R.pz (-p-23)<=1/131072:=by
 have:=R.dM (show -p-23<=-17 by omega);have e:=R.fZ 0 (n:=17) (c:=131072) (by norm_cast);rw[R.fC,show(0:Int)-((17:Nat):Int)=-17 by rfl]at e;grind
theorem kN.more{u v:Int×Int}{a:Rat}{p:Int}(h:kN u v a p)(hp:-6<=p):0<a/\3/4*a<=R.ab (R.qz u)/\R.ab (R.qz v)<=5/4*a/\R.ab (R.qz v)<=4/5/\u.1≠0/\v.1≠0/\-1075<=bC u/\-1075<=bC v:=by
 obtain⟨_,_,a0,a1,lu,lv,wd⟩:=h;have ap:0<a:=by have:=R.dS (-1074);grind
 have bFX:=aNG hp;have m:=R.aG (bRD ap) (show 0<=1/131072-R.pz (-p-23) by grind);have u1:3/4*a<=R.ab (R.qz u):=by grind
 have Vl:u.1≠0:=Kl (by intro hz;rw[hz,R.bN bSK]at u1;grind);have aAG:v.1≠0:=Kl (by intro hz;rw[hz,R.bN bSK]at lv;grind);have t:R.pz (-1075)*2=R.pz (-1074):=by have:=R.uN (-1074);rw[show(-1074:Int)-1=-1075 by rfl]at this;exact this
 have tp:=R.dS (-1075);exact⟨ap,u1,by grind,by grind,Vl,aAG,Fs Vl (by grind),Fs aAG (by grind)⟩
theorem aBY{u v:Int×Int}{a:Rat}{p n:Int}(h:kN u v a p)(hp:-6<=p/\p<=66000)(hn:p+14<=n/\n<=p+150/\1<=n):aRE u n/\aRE v n/\Bx (eK.qT u n,eK.pU v n) (R.sn a) (R.pz (-p-12)*R.ab (R.sn a)) (mg p):=by
 obtain⟨ap,u1,v1,v2,Vl,aAG,tu,tv⟩:=h.more hp.1;obtain⟨pu,pv,a0,a1,lu,lv,wd⟩:=h;have nu:=Pg pu Vl (p:=n) (by grind) (by omega) (by omega);have nv:=Pg pv aAG (p:=n) (by grind) (by omega) (by omega);refine⟨nu,nv,nu.pl,nv.ph,bMS nu.bl (by decide),bMS nv.bh (by decide),aLK p,?_,?_,?_⟩
 ·dsimp only;have h1:=nu.lo;have h2:=R.Vw (x:=R.ab (R.qz u)) (y:=a) (by rw[R.bN (R.aQ _)];grind) (by rw[R.bN (by grind)];grind) lu;have h3:=aLL p;have h4:R.pz (-p-1500)<=R.pz (bC u-n-270):=R.dM (by omega);grind
 ·dsimp only;have h2:=R.Vw (x:=a) (y:=R.ab (R.qz v)) (by rw[R.bN (by grind)];grind) (by rw[R.bN (R.aQ _)];grind) lv;unfold mg;split
  ·have:=nv.hi;grind
  ·have:=nv.mh (by omega);have h4:R.pz (-p-1500)<=R.pz (bC v-n-270):=R.dM (by omega);grind
 ·dsimp only;have k1:=nu.wd;have k2:=nv.wd;have k3:=nu.hi;have k4:=nv.lo;have pz1:=R.dS (bC v-n-270);have aYE:=R.Vx (x:=R.ab (R.qz u)) (y:=R.ab (R.qz v)) (by rw[R.bN (R.aQ _)];grind) (by rw[R.bN (R.aQ _)];grind);rw[R.bN (show 0<=R.ab (R.qz v)-R.ab (R.qz u) by grind)]at aYE;have l2:=R.Pv (R.sn (R.ab (R.qz v))-R.sn (R.ab (R.qz u)));obtain⟨s1,s2⟩:=R.aBW (bRD ap) (show a<=4/5 by grind);rw[R.bN (show 0<=R.sn a by grind)];have aRK:=R.dM (show -n-1<=-p-15 by omega);have k1:=bRB k1 (bZU aRK (R.aQ (R.qz u)));have k2:=bRB k2 (bZU aRK (R.aQ (R.qz v)));have bBS:R.pz (-p-15)=256*R.pz (-p-23):=by
   have:=R.fZ (-p-15) (n:=8) (c:=256) (by norm_cast);rw[show -p-15-((8:Nat):Int)=-p-23 by omega]at this;grind
  have bBT:R.pz (-p-12)=2048*R.pz (-p-23):=by
   have:=R.fZ (-p-12) (n:=11) (c:=2048) (by norm_cast);rw[show -p-12-((11:Nat):Int)=-p-23 by omega]at this;grind
  have zp:=R.dS (-p-23);rw[bBS]at k1 k2;rw[bBT];generalize R.pz (-p-23)=z at *;have m1:=R.aG (bRD zp) (show 0<=5/4*a-R.ab (R.qz v) by grind);have m2:=R.aG (bRD zp) (show 0<=a-R.ab (R.qz u) by grind);have m3:=R.aG (bRD zp) (show 0<=R.sn a-4/5*a by grind);have m4:=R.aG (bRD zp) (bRD ap);grind
theorem aER{n:Nat}(h:n<=1048576):R.sQ<=R.pz (-(n:Int)):=by
 rw[R.zC];exact R.Cp h
theorem aPG{u v:Int×Int}{a:Rat}{p n:Int}(h:kN u v a p)(hp:-6<=p/\p<=66000)(hn:p+14<=n/\n<=p+150/\1<=n):aXG u n/\aXG v n/\Bx (bD.rD v n,bD.qD u n) (R.cs a) (R.pz (-p-12)*R.ab (R.cs a)) (mg p):=by
 obtain⟨ap,u1,v1,v2,Vl,aAG,tu,tv⟩:=h.more hp.1;obtain⟨pu,pv,a0,a1,lu,lv,wd⟩:=h;have nu:=Hp (x:=u) (p:=n) (by grind) (fun _=>by omega) (by omega);have nv:=Hp (x:=v) (p:=n) (by grind) (fun _=>by omega) (by omega);have he:2*R.sQ<=R.pz (-p-1501):=by
  have:=aER (n:=100000) (by omega);have h2:=R.dM (show -((100000:Nat):Int)+1<=-p-1501 by omega);rw[R.jG]at h2;grind
 have e1500:R.pz (-p-1500)=2*R.pz (-p-1501):=by rw[<-R.jG];congr 1;omega
 have pp:=R.dS (-p-1501);have m1:=R.Xr (x:=R.ab (R.qz u)) (y:=a) (R.aQ _) lu (by grind);have m2:=R.Xr (x:=a) (y:=R.ab (R.qz v)) (bRD ap) lv (by grind);have mm:=aLL p;obtain⟨c1,c2⟩:=R.Xs (r:=a) (by rw[R.bN (bRD ap)];grind);refine⟨nu,nv,nv.pl,nu.ph,bMS nv.bl (by decide),bMS nu.bh (by decide),aLK p,?_,?_,?_⟩
 ·dsimp only;have:=nv.ml aAG;have h4:R.pz (-p-1499)<=R.pz (bC v-n-270):=R.dM (by omega);have aVC:R.pz (-p-1499)=2*R.pz (-p-1500):=by rw[<-R.jG];congr 1;omega
  grind
 ·dsimp only
  by_cases c:2*bC u+8 < -n
  ·have e:bD.qD u n=(1,0):=by
    have et:aP.gM u=bC u:=by unfold aP.gM bC;rw[if_neg Vl]
    unfold bD.qD;rw[et,if_neg Vl,if_pos c]
   unfold mg;rw[aT,e,oD];grind
  ·have:=nu.mh Vl c;have h4:R.pz (-p-1499)<=R.pz (bC u-n-270):=R.dM (by omega);have aVC:R.pz (-p-1499)=2*R.pz (-p-1500):=by rw[<-R.jG];congr 1;omega
   grind
 ·dsimp only;have k1:=nu.wd;have k2:=nv.wd;have k3:=nu.lo;have k4:=nv.hi;have aYE:=R.aFI (x:=R.ab (R.qz u)) (y:=R.ab (R.qz v)) (by rw[R.bN (R.aQ _)];grind) (by rw[R.bN (R.aQ _)];grind);rw[R.bN (show 0<=R.ab (R.qz v)-R.ab (R.qz u) by grind)]at aYE;have l2:=R.tN (R.cs (R.ab (R.qz v))-R.cs (R.ab (R.qz u)));rw[R.bN (show 0<=R.cs a by grind)];have aRK:=R.dM (show -n-1<=-p-15 by omega);have k1:=bRB k1 aRK;have k2:=bRB k2 aRK;have bBS:R.pz (-p-15)=256*R.pz (-p-23):=by
   have:=R.fZ (-p-15) (n:=8) (c:=256) (by norm_cast);rw[show -p-15-((8:Nat):Int)=-p-23 by omega]at this;grind
  have bBT:R.pz (-p-12)=2048*R.pz (-p-23):=by
   have:=R.fZ (-p-12) (n:=11) (c:=2048) (by norm_cast);rw[show -p-12-((11:Nat):Int)=-p-23 by omega]at this;grind
  have zp:=R.dS (-p-23);have h5:R.pz (-p-1501)<=R.pz (-p-23):=R.dM (by omega);rw[bBS]at k1 k2;rw[bBT];generalize R.pz (-p-23)=z at *;have m3:=R.aG (bRD zp) (show 0<=R.cs a-17/25 by grind);have m4:=R.aG (bRD zp) (show 0<=1-a by grind);grind
def rS(x:Int×Int)(w q:Int):(Int×Int)×(Int×Int):=(eK.Lu (rL.bFI x w) q,eK.Lv (rL.bFJ x w) q)
def bDA(x:Int×Int)(w:Int):qN:=mI (rL.bFI x w) (rL.bFJ x w)
def rC(x:Int×Int)(w q:Int):(Int×Int)×(Int×Int):=(bD.rD (dv (cU.zI (bDA x w))) q,bD.qD (dv (cU.sU (bDA x w))) q)
theorem Vr{x:Int×Int}(h:x.1≠0):aP.gM x=bC x:=by unfold aP.gM bC;rw[if_neg h]
theorem aKW{x:dR}{p:Int}(hx:aJ x)(hp:1<=p/\p<=67100)(ht:-1200<=bC (dv x))(n:aRE (dv x) p):eK.aIB x p:=by
 refine⟨hx,hp,fun h0=>?_⟩;rw[Vr h0];refine⟨by omega,n.pl,n.ph,jR.2 ?_,n.aXU,n.okB⟩;have h1:=n.lo;have h2:=n.hi;have h3:=R.dS (bC (dv x)-p-270);grind
theorem aMJ{x:dR}{p:Int}(hx:aJ x)(hp:1<=p/\p<=67100)(ht:(dv x).1≠0->-1200<=bC (dv x))(n:aXG (dv x) p):bD.Zv x p:=by
 refine⟨hx,hp,fun h0=>?_⟩;have:=ht h0;rw[Vr h0];exact⟨by omega,n.aXU h0,n.okB h0⟩
theorem Nh(a b:Int×Int):dv (cU.Sk (fB (mI a b)))=((a.1.natAbs:Int),a.2):=by
 show((M6.val (M6.dg a.1.natAbs):Int),a.2)=_;rw[M6.bI]
theorem Ni(a b:Int×Int):dv (cU.Sk (fF (mI a b)))=((b.1.natAbs:Int),b.2):=by
 show((M6.val (M6.dg b.1.natAbs):Int),b.2)=_;rw[M6.bI]
theorem Nv{x:dR}(hx:aJ x):aJ (cU.Sk x):=⟨⟨hx.1.1,fun hf=>(by cases hf),hx.1.len⟩,hx.2⟩
theorem qG(p:Int×Int):R.ab (R.qz ((p.1.natAbs:Int),p.2))=R.ab (R.qz p):=by rw[Gg,R.bN (R.aQ _)]
theorem Qo{a b:Int×Int}(hs:gL.wJ a b≠0)(ha:iS a)(hb:iS b) :
  (aJ (cU.zI (mI a b))/\aJ (cU.sU (mI a b))) /\
  ((R.ab (R.qz b)<R.ab (R.qz a)/\dv (cU.zI (mI a b))=((a.1.natAbs:Int),a.2)/\dv (cU.sU (mI a b))=((b.1.natAbs:Int),b.2)) \/
  (R.ab (R.qz a)<=R.ab (R.qz b)/\dv (cU.zI (mI a b))=((b.1.natAbs:Int),b.2)/\dv (cU.sU (mI a b))=((a.1.natAbs:Int),a.2))):=by
 have oa:aJ (fB (mI a b)):=cK ha;have ob:aJ (fF (mI a b)):=cK hb;unfold cU.zI cU.sU;rw[nU,nV,show(gL.wJ a b==0)=false from beq_eq_false_iff_ne.2 hs,cond_false,Nh,Ni];have hc:=nD (p:=((a.1.natAbs:Int),a.2)) (q:=((b.1.natAbs:Int),b.2));rw[Gg,Gg]at hc
 by_cases h:R.ab (R.qz b)<R.ab (R.qz a)
 ·rw[decide_eq_true (hc.2 h),cond_true,cond_true,Nh,Ni];exact⟨⟨Nv oa,Nv ob⟩,Or.inl ⟨h,rfl,rfl⟩⟩
 ·rw[decide_eq_false (fun hh=>h (hc.1 hh)),cond_false,cond_false,Nh,Ni];exact⟨⟨Nv ob,Nv oa⟩,Or.inr ⟨Rat.not_lt.1 h,rfl,rfl⟩⟩
theorem aHZ{a:Int×Int}{x:dR}(hx:aJ x)(e:dv x=a)(h1:R.ab (R.qz a)<=1)(ht:a.1≠0->-1200<=bC a):oQ.Kb x:=by
 refine⟨hx,fun h0=>?_⟩;rw[e]at h0 ⊢;have:=ht h0;refine⟨jR.2 (by rw[Gg,oD];exact h1),?_⟩;unfold bC at this;omega
theorem aDD{s:(Int×Int)×(Int×Int)}{V W m:Rat}(h:Bx s V W m)(h1:-1<=R.qz s.1)(h2:R.qz s.2<=1):R.ab (R.qz s.1)<=1/\R.ab (R.qz s.2)<=1:=by
 have:=h.lo;have:=h.hi;have:=h.m0;constructor <;> (rw[R.dY];constructor <;> grind)
def gS(l h:Int×Int)(q:Int):(Int×Int)×(Int×Int):=(eK.Lu l q,eK.Lv h q)
def gC(l h:Int×Int)(q:Int):(Int×Int)×(Int×Int):=(bD.rD (dv (cU.zI (mI l h))) q,bD.qD (dv (cU.sU (mI l h))) q)
structure bCE(l h:Int×Int)(p n:Int)(r:Rat):Prop where
 so:sK.aBU (mI l h) (n-2)
 co:cU.aJZ (mI l h) (n-2)
 s:Bx (gS l h n) (R.sn r) (R.pz (-p-12)*R.ab (R.sn r)) (mg p)
 c:Bx (gC l h n) (R.cs r) (R.pz (-p-12)*R.ab (R.cs r)) (mg p)
 s1:R.ab (R.qz (gS l h n).1)<=1/\R.ab (R.qz (gS l h n).2)<=1
 c1:R.ab (R.qz (gC l h n).1)<=1/\R.ab (R.qz (gC l h n).2)<=1
theorem aMR{l h:Int×Int}{p n:Int}{r:Rat}(hp:-6<=p/\p<=66000)(hn:p+14<=n/\n<=p+150/\3<=n)(pl:iS l)(ph:iS h)(lo:R.qz l<=r)(hi:r<=R.qz h)(wd:R.qz h-R.qz l<=R.pz (-p-23)*R.ab r)(rg:R.pz (-1074)<=R.ab r)(nl:R.ab r<=79/100):bCE l h p n r:=by
 have aAO:p+14<=n/\n<=p+150/\1<=n:=by omega
 have bFX:=aNG hp.1;have rp:0<R.ab r:=by have:=R.dS (-1074);grind
 have m:=R.aG (bRD rp) (show 0<=1/131072-R.pz (-p-23) by grind);have tok:∀q:Int,q=n-2->(1<=q/\q<=67000):=fun q hq=>by omega
 have oa:aJ (fB (mI l h)):=cK pl;have ob:aJ (fF (mI l h)):=cK ph;have ea:dv (fB (mI l h))=l:=nU _ _;have eb:dv (fF (mI l h))=h:=nV _ _;have sk:dP (mI l h):=uL pl ph (jR.2 (by grind));have aRC:n-2+2=n:=by omega
 have fin:∀(a:Rat),a=R.ab r->R.ab (R.qz l)<=4/5->R.ab (R.qz h)<=4/5 ->
   (l.1≠0/\-1075<=bC l)->(h.1≠0/\-1075<=bC h) ->
   aRE l n->aRE h n ->
   kN (dv (cU.sU (mI l h))) (dv (cU.zI (mI l h))) a p->aJ (cU.zI (mI l h))->aJ (cU.sU (mI l h)) ->
   Bx (gS l h n) (R.sn r) (R.pz (-p-12)*R.ab (R.sn r)) (mg p)->-1<=R.qz (gS l h n).1->R.qz (gS l h n).2<=1->bCE l h p n r:=by
  intro a ha l1 l2 t1 t2 n1 n2 par of on bs b1 b2;obtain⟨cu,cv,cb⟩:=aPG par hp aAO;obtain⟨_,_,_,_,_,_,tu,tv⟩:=par.more hp.1;have ec:R.cs a=R.cs r:=by rw[ha];exact R.aFJ r
  rw[ec]at cb;refine⟨⟨⟨tok _ rfl,sk,aHZ oa ea (by grind) (fun _=>by omega),aHZ ob eb (by grind) (fun _=>by omega)⟩,?_,?_⟩,⟨⟨tok _ rfl,sk,aHZ oa ea (by grind) (fun _=>by omega),aHZ ob eb (by grind) (fun _=>by omega)⟩,?_,?_⟩,bs,cb,aDD bs b1 b2,aDD cb ?_ cu.one⟩
  ·rw[aRC];exact aKW oa (by omega) (by rw[ea];omega) (by rw[ea];exact n1)
  ·rw[aRC];exact aKW ob (by omega) (by rw[eb];omega) (by rw[eb];exact n2)
  ·rw[aRC];exact aMJ of (by omega) (fun _=>by omega) cv
  ·rw[aRC];exact aMJ on (by omega) (fun _=>by omega) cu
  ·have h1:=cb.wd;have h2:=cb.hi;have h3:=cb.m0;obtain⟨c1,c2⟩:=R.Xs (r:=r) (by grind);rw[R.bN (show 0<=R.cs r by grind)]at h1;have z12:R.pz (-p-12)<=1:=by rw[<-R.fC];exact R.dM (by omega)
   have:=R.aG (show 0<=R.cs r by grind) (show 0<=1-R.pz (-p-12) by grind);show -1<=R.qz (bD.rD (dv (cU.zI (mI l h))) n);dsimp only at h1 h2;grind
 have t75:R.pz (-1075)*2=R.pz (-1074):=by have:=R.uN (-1074);rw[show(-1074:Int)-1=-1075 by rfl]at this;exact this
 by_cases c:0<r
 ·have er:R.ab r=r:=R.bN (bRD c);rw[er]at nl wd rg rp m;have al:R.ab (R.qz l)=R.qz l:=R.bN (by grind);have ah:R.ab (R.qz h)=R.qz h:=R.bN (by grind);have par:kN l h r p:=⟨pl,ph,rg,nl,by rw[al];exact lo,by rw[ah];exact hi,by rw[al,ah];exact wd⟩;obtain⟨_,_,_,v2,Vl,aAG,tu,tv⟩:=par.more hp.1;obtain⟨nu,nv,bs⟩:=aBY par hp aAO;have sg:gL.wJ l h≠0:=by rw[aCD (by grind) (by grind)];decide
  obtain⟨⟨of,on⟩,hd⟩:=Qo sg pl ph;have n1:isNeg l.1=false:=jI.2 (by have:=zB.1 (show 0<R.qz l by grind);omega);have n2:isNeg h.1=false:=jI.2 (by have:=zB.1 (show 0<R.qz h by grind);omega);have eS:gS l h n=(eK.qT l n,eK.pU h n):=by
   unfold gS eK.Lu eK.Lv;rw[if_neg Vl,if_neg aAG,n1,n2];rfl
  refine fin r er.symm (by grind) (by grind) ⟨Vl,tu⟩ ⟨aAG,tv⟩ nu nv ?_ of on (by rw[eS];exact bs) ?_ ?_
  ·rcases hd with ⟨d1,d2,d3⟩ |⟨d1,d2,d3⟩
   ·grind
   ·show kN (dv (cU.sU (mI _ _))) (dv (cU.zI (mI _ _))) r p;rw[d2,d3];exact⟨uQ pl,uQ ph,rg,nl,by rw[qG,al];exact lo,by rw[qG,ah];exact hi,by rw[qG,qG,al,ah];exact wd⟩
  ·rw[eS];have:=nu.pos;dsimp only;grind
  ·rw[eS];exact nv.one
 ·have er:R.ab r=-r:=by
   unfold R.ab
   by_cases hr:0<=r
   ·have:r=0:=by grind
    rw[this,R.bN bSK]at rp;grind
   ·rw[if_neg hr]
  rw[er]at nl wd rg rp m;have al:R.ab (R.qz l)=-R.qz l:=by rw[<-R.gT];exact R.bN (by grind)
  have ah:R.ab (R.qz h)=-R.qz h:=by rw[<-R.gT];exact R.bN (by grind)
  have par:kN h l (-r) p:=⟨ph,pl,rg,nl,by rw[ah];grind,by rw[al];grind,by rw[al,ah];grind⟩;obtain⟨_,_,_,v2,Vl,aAG,tu,tv⟩:=par.more hp.1;obtain⟨nu,nv,bs⟩:=aBY par hp aAO;have sg:gL.wJ l h≠0:=by rw[aCE (by grind)];decide
  obtain⟨⟨of,on⟩,hd⟩:=Qo sg pl ph;have n1:isNeg l.1=true:=lP.2 (Ge.1 (by grind));have n2:isNeg h.1=true:=lP.2 (Ge.1 (by grind));have eS:gS l h n=(jM.uS (eK.pU l n),jM.uS (eK.qT h n)):=by
   unfold gS eK.Lu eK.Lv;rw[if_neg Vl,if_neg aAG,n1,n2];rfl
  have bn:=bs.neg;have es:-R.sn (-r)=R.sn r:=by rw[R.Bt];grind
  have bLD:R.ab (R.sn (-r))=R.ab (R.sn r):=by rw[R.Bt,R.gT]
  rw[es,bLD]at bn;refine fin (-r) er.symm (by grind) (by grind) ⟨aAG,tv⟩ ⟨Vl,tu⟩ nv nu ?_ of on (by rw[eS];exact bn) ?_ ?_
  ·show kN (dv (cU.sU (mI _ _))) (dv (cU.zI (mI _ _))) (-r) p;rcases hd with ⟨d1,d2,d3⟩ |⟨d1,d2,d3⟩
   ·rw[d2,d3];exact⟨uQ ph,uQ pl,rg,nl,by rw[qG,ah];grind,by rw[qG,al];grind,by rw[qG,qG,al,ah];grind⟩
   ·rw[d2,d3];exact⟨uQ pl,uQ ph,rg,nl,by rw[qG,al];grind,by rw[qG,ah];grind,by rw[qG,qG,al,ah];grind⟩
  ·rw[eS];show -1<=R.qz (-(eK.pU l n).1,(eK.pU l n).2);rw[rY];have:=nv.one;grind
  ·rw[eS];show R.qz (-(eK.qT h n).1,(eK.qT h n).2)<=1;rw[rY];have:=nu.pos;grind
end M
namespace M
open Go AI W
theorem Lx{up:Bool}{p:Int×Int}{n:Int}(hn:1<=n)(h:R.ab (R.qz p)<=1):R.ab (R.qz (shD up p n))<=1:=by
 unfold shD bR.lO;rw[mB];split
 ·exact h
 ·rename_i hk;dsimp only;have h0:p.1≠0:=by
   intro hz;rw[hz]at hk;exact hk (by show(bl 0:Int)-n<=0;rw[Fj];omega)
  have ht:=xR h0 (by rw[R.fC];exact h);unfold bC at ht;obtain⟨k,Sh⟩:=bQY (show 0<=(bl p.1.natAbs:Int)-n by omega);rw[Sh,bPS];obtain⟨j,hj⟩:=bQY (show 0<=-(p.2+(k:Int)) by omega);have hz:p.1.natAbs<=2^j*2^k:=by
   rw[Ro]at h;rw[<-bQX];have e1:R.pz p.2*((2^(j+k):Nat):Rat)=1:=by rw[<-R.dT,show p.2+((j+k:Nat):Int)=0 by omega,R.fC]
   have P:(0:Rat)<=((2^(j+k):Nat):Rat):=by exact_mod_cast bRZ _
   have m:=R.aG P (show 0<=1-(p.1.natAbs:Rat)*R.pz p.2 by grind);have:(p.1.natAbs:Rat)<=((2^(j+k):Nat):Rat):=by
    have e2:((2^(j+k):Nat):Rat)*((p.1.natAbs:Rat)*R.pz p.2)=(p.1.natAbs:Rat):=by
     rw[bYQ,bXG,e1];grind
    grind
   exact_mod_cast this
  have hp:(0:Int)<((2^k:Nat):Int):=by have:=bOV (n:=k) (show 0<2 by decide);omega
  have bDK:(p.1.natAbs:Int)<=((2^j:Nat):Int)*((2^k:Nat):Int):=by exact_mod_cast hz
  have hc:-((2^j:Nat):Int)<=iK.mU up p.1 k/\iK.mU up p.1 k<=((2^j:Nat):Int):=by
   have fl:∀w:Int,(w.natAbs:Int)<=((2^j:Nat):Int)*((2^k:Nat):Int)->-((2^j:Nat):Int)<=w/((2^k:Nat):Int)/\w/((2^k:Nat):Int)<=((2^j:Nat):Int):=by
    intro w hw;constructor
    ·refine Int.le_ediv_of_mul_le hp ?_;rw[Int.neg_mul];omega
    ·exact Int.ediv_le_of_le_mul hp (by omega)
   unfold iK.mU;cases up with
   |false=>rw[cond_false];exact fl _ bDK
   |true =>
    rw[cond_true];have:=fl (-p.1) (by rw[bSQ];exact bDK);omega
  generalize iK.mU up p.1 k=c at *;have e1:R.pz (p.2+(k:Int))*((2^j:Nat):Rat)=1:=by rw[<-R.dT,show p.2+(k:Int)+(j:Int)=0 by omega,R.fC]
  have pp:=R.dS (p.2+(k:Int));have c1:-((2^j:Nat):Rat)<=(c:Rat):=by
   have:((-((2^j:Nat):Int):Int):Rat)<=(c:Rat):=by exact_mod_cast hc.1
   rwa [bWX,bWO]at this
  have c2:(c:Rat)<=((2^j:Nat):Rat):=by
   have:(c:Rat)<=(((2^j:Nat):Int):Rat):=by exact_mod_cast hc.2
   rwa [bWO]at this
  have m1:=R.aG (bRD pp) (show 0<=(c:Rat)+((2^j:Nat):Rat) by grind);have m2:=R.aG (bRD pp) (show 0<=((2^j:Nat):Rat)-(c:Rat) by grind);rw[R.dY];constructor <;> grind
def On(s:(Int×Int)×(Int×Int)):Prop:=R.ab (R.qz s.1)<=1/\R.ab (R.qz s.2)<=1
theorem On.neg{s:(Int×Int)×(Int×Int)}(h:On s):On (jM.uS s.2,jM.uS s.1):=by
 constructor
 ·show R.ab (R.qz (-s.2.1,s.2.2))<=1;rw[rY,R.gT];exact h.2
 ·show R.ab (R.qz (-s.1.1,s.1.2))<=1;rw[rY,R.gT];exact h.1
theorem On.trn{s c:(Int×Int)×(Int×Int)}(hs:On s)(hc:On c):∀n:Nat,On (VTurned.trn s c n).1/\On (VTurned.trn s c n).2:=by
 intro n
 induction n generalizing s c with
 |zero=>exact⟨hs,hc⟩
 |succ n ih=>exact ih hc hs.neg
theorem aFT{s:(Int×Int)×(Int×Int)}{V ρ m:Rat}(h:Bx s V (ρ*R.ab V) m)(r1:ρ<=1/64)(V0:V≠0) :
  63/64*R.ab V<=R.ab (R.qz s.1)/\R.ab (R.qz s.1)<=65/64*R.ab V/\63/64*R.ab V<=R.ab (R.qz s.2)/\R.ab (R.qz s.2)<=65/64*R.ab V/\(0<V->0<R.qz s.1)/\(V<0->R.qz s.2<0)/\0<R.ab V:=by
 obtain⟨_,_,_,_,m0,lo,hi,wd⟩:=h;have a0:0<R.ab V:=by
  unfold R.ab;split <;> grind
 have k:=R.aG (bRD a0) (show 0<=1/64-ρ by grind);generalize hρ:ρ*R.ab V=W at *
 by_cases c:0<V
 ·have e:R.ab V=V:=R.bN (bRD c);rw[e]at a0 k hρ;rw[e];rw[R.bN (show 0<=R.qz s.1 by grind),R.bN (show 0<=R.qz s.2 by grind)];refine⟨by grind,by grind,by grind,by grind,fun _=>by grind,fun _=>by grind,c⟩
 ·have e:R.ab V=-V:=by unfold R.ab;rw[if_neg (by grind)]
  rw[e]at a0 k hρ;rw[e];rw[<-R.gT,R.bN (show 0<=-R.qz s.1 by grind),<-R.gT,R.bN (show 0<=-R.qz s.2 by grind)];refine⟨by grind,by grind,by grind,by grind,fun _=>by grind,fun _=>by grind,by grind⟩
theorem Kx{s:(Int×Int)×(Int×Int)}{V W W' m:Rat}(h:Bx s V W m)(hw:W<=W'):Bx s V W' m:=by
 obtain⟨a,b,c,d,e,f,g,i⟩:=h;exact⟨a,b,c,d,e,f,g,bRB i hw⟩
theorem Dl{p:Int×Int}(h:0<R.ab (R.qz p)):p.1≠0:=Kl fun hz=>by rw[hz,R.bN bSK]at h;exact Rat.lt_irrefl h
theorem aKZ(k:Int)(s c:Rat):R.ab (R.rs k s c)=if k%2=0 then R.ab s else R.ab c:=by
 have h4:k%4=0\/k%4=1\/k%4=2\/k%4=3:=by omega
 unfold R.rs;rcases h4 with h |h |h |h
 ·have h2:k%2=0:=by omega
  simp[h,h2,R.gT]
 ·have h2:k%2=1:=by omega
  simp[h,h2,R.gT]
 ·have h2:k%2=0:=by omega
  simp[h,h2,R.gT]
 ·have h2:k%2=1:=by omega
  simp[h,h2,R.gT]
theorem aLA(k:Int)(s c:Rat):R.ab (R.rc k s c)=if k%2=0 then R.ab c else R.ab s:=by
 have h4:k%4=0\/k%4=1\/k%4=2\/k%4=3:=by omega
 unfold R.rc;rcases h4 with h |h |h |h
 ·have h2:k%2=0:=by omega
  simp[h,h2,R.gT]
 ·have h2:k%2=1:=by omega
  simp[h,h2,R.gT]
 ·have h2:k%2=0:=by omega
  simp[h,h2,R.gT]
 ·have h2:k%2=1:=by omega
  simp[h,h2,R.gT]
end M
namespace W
open Go AI M
namespace nJ
def E:=mE [(100,Ir.aH),(101,aQJ.aH),(47,Rt.aH)] 31 [28] [] []
def aE:=bd f42
theorem aU:Nk E aE:=nk
theorem start a b d e f g c:aF E f42 aE [D.agg [sc (bool a),ints u64 b,sc (int i64 d)],D.agg [sc (bool e),ints u64 f,sc (int i64 g)],D.s (sc (int i64 c))]=letI B:=bR.lO true (dv (e,f,g)).fst (dv (e,f,g)).snd c;letI F:=bif fM B.fst B.snd then aL B.fst B.snd else((0:Int),(0:Int));letI A:=bR.lO false (dv (a,b,d)).fst (dv (a,b,d)).snd c;letI C:=bif fM A.fst A.snd then aL A.fst A.snd else((0:Int),(0:Int));aO (aJ (a,b,d)/\1<=c/\c<=70000) (aC (isNeg C.fst) fun h=>aC (M6.dg C.fst.natAbs) fun i=>aC C.snd fun j=>aC (bif fM A.fst A.snd then(0:Int)else(5:Int)) fun k=>aO (aJ (e,f,g)/\1<=c/\c<=70000) (aC (isNeg F.fst) fun l=>aC (M6.dg F.fst.natAbs) fun m=>aC F.snd fun n=>aC (bif fM B.fst B.snd then(0:Int)else(5:Int)) fun o=>aO (k=0/\o=0) (some [D.agg [sc (bool h),ints u64 i,sc (int i64 j),sc (bool l),ints u64 m,sc (int i64 n)],D.s (sc (int i64 0))]))):=eJ aU
def sp(x y:dR)(p:Int):Prop×List D:=(aJ x/\aJ y/\(1<=p/\p<=70000)/\nT false (dv x) p=true/\nT true (dv y) p=true,[vU (shD false (dv x) p) (shD true (dv y) p),.s (.sc (.int .i64 0))])
theorem spec:sR E f42 aE gZ gZ (pN .i64) sp:=by
 rintro x y p ⟨h1,h2,hp,i1,i2⟩;have aYJ:fM (bR.lO false (dv (x.1,x.2.1,x.2.2)).1 (dv (x.1,x.2.1,x.2.2)).2 p).1 (bR.lO false (dv (x.1,x.2.1,x.2.2)).1 (dv (x.1,x.2.1,x.2.2)).2 p).2=true:=i1;have aYI:fM (bR.lO true (dv (y.1,y.2.1,y.2.2)).1 (dv (y.1,y.2.1,y.2.2)).2 p).1 (bR.lO true (dv (y.1,y.2.1,y.2.2)).1 (dv (y.1,y.2.1,y.2.2)).2 p).2=true:=i2;refine(start x.1 x.2.1 x.2.2 y.1 y.2.1 y.2.2 p).trans ?_;simp only[aK];rw[gP ⟨h1,hp⟩,gP ⟨h2,hp⟩,aYJ,aYI,gP ⟨rfl,rfl⟩];rfl
def aH:dG:=orc3 gZ gZ (pN .i64) sp
theorem ok:OK 42 aH:=(eF E aE (aA Ir.ok (aA aQJ.ok (aA Rt.ok aD))) func42).Al rfl spec
end nJ
namespace aPR
def E:=mE [(40,zP.aH),(42,nJ.aH)] 23 [10,20] [] []
def aE:=bd f38
theorem aU:Nk E aE:=nk
theorem start a c d e f g b:aF E f38 aE [D.agg [sc (bool a),ints u64 c,sc (int i64 d),sc (bool e),ints u64 f,sc (int i64 g)],D.s (sc (int i64 b))]=letI C:=int i64 0;letI B:=M.shD true (dv (e,f,g)) b;letI A:=M.shD false (dv (a,c,d)) b;aO (dP (a,c,d,e,f,g)) (aC (if 1<=b/\b<=70000 then(0:Int)else(1:Int)) fun h=>aB (h !=0) (some [D.agg [sc (bool false),sc (slice none 0 0),sc C,sc (bool false),sc (slice none 0 0),sc C],D.s (sc (int i64 h))]) (aO (aJ (a,c,d)/\aJ (e,f,g)/\(1<=b/\b<=70000)/\nT false (dv (a,c,d)) b=true/\nT true (dv (e,f,g)) b=true) (aC (isNeg A.fst) fun i=>aC (M6.dg A.fst.natAbs) fun j=>aC A.snd fun k=>aC (isNeg B.fst) fun l=>aC (M6.dg B.fst.natAbs) fun m=>aC B.snd fun n=>some [D.agg [sc (bool i),ints u64 j,sc (int i64 k),sc (bool l),ints u64 m,sc (int i64 n)],D.s (sc C)]))):=eJ aU
def sp(s:qN)(p:Int):Prop×List D:=(dP s/\(1<=p/\p<=70000)/\nT false (dv (fB s)) p=true/\nT true (dv (fF s)) p=true,[vU (shD false (dv (fB s)) p) (shD true (dv (fF s)) p),.s (.sc (.int .i64 0))])
theorem spec:fI E f38 aE qK (pN .i64) sp:=by
 rintro s p ⟨h1,hp,i1,i2⟩;refine(start s.1 s.2.1 s.2.2.1 s.2.2.2.1 s.2.2.2.2.1 s.2.2.2.2.2 p).trans ?_;rw[gP h1,aK,if_pos hp,fD rfl];exact gP ⟨h1.1,h1.2.1,hp,i1,i2⟩
def aH:dG:=orc2 qK (pN .i64) sp
theorem ok:OK 38 aH:=(eF E aE (aA zP.ok (aA nJ.ok aD)) func38).lA rfl spec
end aPR
namespace Rp
theorem aPD{b:Int}(hb:0<=b/\b<18446744073709551616)(c0:xE.aPJ b≠0)(c3:xE.aPJ b≠3)(c4:xE.aPJ b≠4):eT.hI 64 b=true/\cA.iB 64 b=true/\aQI (bM.lZ 64 b) (bM.mA 64 b):=by
 have hp:eT.hI 64 b=true:=rfl;unfold xE.aPJ at c0 c3 c4;rw[hp,cond_true]at c0 c3 c4;have e1:cY.lR (aM.gW 64)=4503599627370496:=rfl;have e2:kT.mK (aM.gW 64)=9218868437227405312:=rfl;have e3:dJ.dW (aM.gW 64)=9223372036854775808:=rfl;have e4:(aM.gW 64).2.2.1=-1074:=rfl;unfold lN.lF at c0 c3 c4;rw[e1,e2]at c0 c3 c4;have n0:b%9223372036854775808≠0:=fun h=>by rw[h,if_pos rfl]at c0;exact c0 rfl
 have n1:b%9223372036854775808<9218868437227405312:=by
  rw[if_neg n0]at c3 c4
  by_cases h1:b%9223372036854775808<4503599627370496
  ·omega
  ·rw[if_neg h1]at c3 c4
   by_cases h2:b%9223372036854775808<9218868437227405312
   ·exact h2
   ·rw[if_neg h2]at c3 c4
    by_cases h3:b%9223372036854775808=9218868437227405312
    ·rw[if_pos h3]at c3;exact absurd rfl c3
    ·rw[if_neg h3]at c4;exact absurd rfl c4
 refine⟨hp,?_,?_⟩
 ·unfold cA.iB;rw[e2,e3];exact decide_eq_true n1
 ·have hz:(bM.lZ 64 b).natAbs=(iF.Cg (aM.gW 64) (b%9223372036854775808)).toNat:=by
   unfold bM.lZ;rw[kB,e3]
  have hm:0<iF.Cg (aM.gW 64) (b%9223372036854775808)/\iF.Cg (aM.gW 64) (b%9223372036854775808)<9007199254740992:=by
   unfold iF.Cg;rw[e1];split <;> omega
  have he:-1074<=bM.mA 64 b/\bM.mA 64 b<=971:=by
   unfold bM.mA iF.Ej;rw[e1,e3,e4];split <;> omega
  exact⟨by omega,by omega,he.1,he.2⟩
end Rp
end W
namespace R
open W.TSums
end R
namespace M
open Go AI W
def h7(q:Nat):Nat:=THalvings.hlv q 400 8
def w7(q:Nat):Nat:=q+64+4*h7 q
def u7(y:Int)(q:Nat):Nat:=y.natAbs*2^(64+3*h7 q)
def bCY(y:Int)(q:Nat):Nat×Nat:=R.Cr (2^w7 q) (h7 q) (TSums.So (u7 y q) (w7 q)) (TSums.Sp (u7 y q) (w7 q))
def aXJ(y:Int)(q:Nat):Int:=zs (isNeg y) (bCY y q).1/((2^(w7 q-q):Nat):Int)
def bBW(y:Int)(q:Nat):Int:=((bCY y q).2:Int)/((2^(w7 q-q):Nat):Int)
end M
namespace W
open Go AI M
namespace Mk
def E:=mE [(134,Norm.aH)] 16 [] [] []
def aE:=bd f140
theorem aU:Nk E aE:=nk
theorem start a b:aF E f140 aE [D.s (sc (bool a)),D.s (ints u32 b)]=letI A:=dg (val b);aO (cE b/\b.length<=4398046511104) (aB a (some [D.agg [sc (bool (decide (0<(A.length:Int)))),ints u32 A]]) (some [D.agg [sc (bool false),ints u32 A]])):=eJ aU
def sp(b:Bool)(m:List Int):Prop×List D:=(cE m/\m.length<=4398046511104,[zD (zs b (val m))])
theorem spec:fI E f140 aE pB (pI .u32) sp:=by
 intro b m h;refine(start b m).trans ((gP h).trans ?_);unfold sp;simp only[aRJ];cases b with
 |false=>rfl
 |true =>
  rw[bT];have:decide (0<((dg (val m)).length:Int))=decide (val m≠0):=by
   by_cases h:val m=0
   ·rw[h,bJ];rfl
   ·rw[decide_eq_true h,decide_eq_true];have:(dg (val m)).length≠0:=fun hh=>h (gI.1 hh)
    omega
  rw[this];rfl
def aH:dG:=orc2 pB (pI .u32) sp
theorem ok:OK 140 aH:=(eF E aE (aA Norm.ok aD) func140).lA rfl spec
end Mk
namespace bCF
def E:=mE [(134,Norm.aH),(142,Uv.aH),(228,xN.aH)] 29 [10,16,25] [] []
def aE:=bd f202
theorem aU:Nk E aE:=nk
theorem start a b:aF E f202 aE [D.s (ints u32 a),D.s (sc (int i64 b))]=letI F:=b.tdiv 32;letI C:=(a.length:Int);letI B:=(↑((2:Nat)^min (b.tmod 32).toNat 32):Int);letI A:=List.drop (i64.wrap F).toNat (List.take C.toNat a);aB (decide (b<=0)) (aO (cE a/\a.length<=4398046511104) (some [D.own 156 u32 (dg (val a))])) (aB (decide (C<=i64.wrap F)) (aO ((0:Int)<=(0:Int)/\(0:Int)<(18446744073709551616:Int)) (some [D.own 156 u32 (dg 0)])) (if 0<=i64.wrap F/\i64.wrap F<=C/\C<=C then if b.tmod 32<(0:Int)then none else aO (cE A/\A.length<=1099511627776/\0<u32.wrap ((1:Int)*B)/\u32.wrap ((1:Int)*B)<4294967296) (some [D.own 156 u32 (dg (val A/(u32.wrap ((1:Int)*B)).toNat))])else none)):=eJ aU
def sp(a:List Int)(n:Int):Prop×List D:=(cE a/\a.length<=1099511627776/\n<9223372036854775808,[.own Jb .u32 (dg (val a/2^n.toNat))])
theorem spec:fI E f202 aE (pI .u32) (pN .i64) sp:=by
 rintro a n ⟨ha,h1,h2⟩;refine(start a n).trans ?_;show _=some [D.own Jb .u32 (dg (val a/2^n.toNat))]
 by_cases hn:n<=0
 ·rw[aN hn,gP ⟨ha,by omega⟩,show n.toNat=0 from by omega,Nat.pow_zero,Nat.div_one]
 ·have e1:(n%32).toNat=n.toNat%32:=by omega
  have e2:(n/32).toNat=n.toNat/32:=by omega
  rw[aI hn,aMV (by omega),aMT (by omega),wrap_i64 (n:=n/32)]
  by_cases hz:(a.length:Int)<=n/32
  ·rw[aN hz,gP ⟨by omega,by omega⟩,bRT];rw[Cb];have h3:val a<4294967296^(n.toNat/32):=bMW (cO ha) (fQ);have aDO:0<2^(n.toNat%32):=cP;exact bMW h3 (Nat.le_mul_of_pos_right _ aDO)
  ·have hp:2^(n.toNat%32)<2^32:=bSP (by omega) (by omega);have aDO:0<2^(n.toNat%32):=cP;rw[aI hz,if_pos ⟨by omega,by omega,by omega⟩,aX,aCB (by omega) (by omega),bPS,List.take_length,e1,e2];rw[gP ⟨ha.drop _,by rw[bPV];omega,by generalize 2^(n.toNat%32)=p at *;omega⟩,bPS,jD ha,Zt]
def aH:dG:=orc2 (pI .u32) (pN .i64) sp
theorem ok:OK 202 aH:=(eF E aE (aA Norm.ok (aA Uv.ok (aA xN.ok aD))) func202).lA rfl spec
end bCF
namespace bCD
def E:=mE [(140,Mk.aH),(141,Add.aH),(142,Uv.aH)] 17 [] [] []
def aE:=bd f89
theorem aU:Nk E aE:=nk
theorem start a:aF E f89 aE [D.s (sc (int i64 a))]=letI F:=dg (u64.wrap a).toNat;letI B:=i64.wrap ((0:Int)-i64.wrap (a+1));letI A:=dg (u64.wrap B).toNat;letI C:=dg (val A+val (dg 1));aB (decide (a<0)) (aO (0<=u64.wrap B/\u64.wrap B<18446744073709551616) (aO ((0:Int)<=(1:Int)/\(1:Int)<(18446744073709551616:Int)) (aO (cE A/\cE (dg 1)/\A.length<=1099511627776/\(dg 1).length<=1099511627776) (aO (cE C/\C.length<=4398046511104) (some [D.agg [sc (bool (isNeg (zs true (val C)))),ints u32 (dg (zs true (val C)).natAbs)]]))))) (aO (0<=u64.wrap a/\u64.wrap a<18446744073709551616) (aO (cE F/\F.length<=4398046511104) (some [D.agg [sc (bool (isNeg (zs false (val F)))),ints u32 (dg (zs false (val F)).natAbs)]]))):=eJ aU
def sp(a:Int):Prop×List D:=(-9223372036854775808<=a/\a<9223372036854775808,[zD a])
theorem Wu{n:Nat}(h:n<18446744073709551616):(dg n).length<=2:=cR (by simpa using h)
theorem spec:gO E f89 aE (pN .i64) sp:=by
 rintro a ⟨h1,h2⟩;refine(start a).trans ?_;show _=some [zD a];simp only[bI]
 by_cases hn:a<0
 ·have e:u64.wrap (i64.wrap (0-i64.wrap (a+1)))=-(a+1):=by
   rw[wrap_i64 (n:=a+1),wrap_i64,wrap_u64];omega
  have l1:=Wu (n:=(-(a+1)).toNat) (by omega);have l2:=Wu (n:=(-(a+1)).toNat+1) (by omega);have l3:=Wu (n:=1) (by omega);rw[aN hn,e,gP ⟨by omega,by omega⟩,gP ⟨by omega,by omega⟩,gP ⟨iO _,iO _,by omega,by omega⟩,gP ⟨iO _,by omega⟩];have ez:zs true ((-(a+1)).toNat+1)=a:=by unfold zs;simp only[cond_true];omega
  rw[ez];rfl
 ·have l1:=Wu (n:=a.toNat) (by omega);rw[aI hn,wrap_u64,gP ⟨by omega,by omega⟩,gP ⟨iO _,by omega⟩];have ez:zs false a.toNat=a:=by unfold zs;simp only[cond_false];omega
  rw[ez];rfl
def aH:dG:=orc1 (pN .i64) sp
theorem ok:OK 89 aH:=(eF E aE (aA Mk.ok (aA Add.ok (aA Uv.ok aD))) func89).nN rfl spec
end bCD
namespace Ny
def bCX(m e:Int):Int:=if 0<=e then m*2^e.toNat else m/((2^(-e).toNat:Nat):Int)
end Ny
namespace aXH
def E:=mE [] 24 [] [(3,[0,1])] [3]
def aE:=bd f227
theorem aU:Nk E aE:=nk
def J3 a b:=kV E f227 aE 3 [wA a,bP b]
theorem start a b:aF E f227 aE [D.s (ints u32 a),D.s (sc (int i64 b))]=letI A:=some [D.s (sc (int i64 0))];aB (decide (b<0)) A (aB (decide ((a.length:Int)<=i64.wrap (b.tdiv 32))) A (aXH.J3 a b)):=eJ aU
theorem fR a b:J3 a b=letI A:=b.tdiv 32;if 0<=i64.wrap A/\i64.wrap A<(a.length:Int)then if b.tmod 32<(0:Int)then none else some [D.s (sc (int i64 (i64.wrap (eN BinOp.and u32 (a.getD (i64.wrap A).toNat 0/(↑((2:Nat)^min (b.tmod 32).toNat 32):Int)) 1))))]else none:=cJ aU
theorem aAA{x:Int}(h:0<=x)(h':x<4294967296):eN .and .u32 x 1=x%2:=by
 obtain⟨n,rfl⟩:=bQY h;rw[sH];unfold bitsI0;simp only;have e:(BitVec.ofInt u32.bits (n:Int) &&& BitVec.ofInt u32.bits 1).toNat=n%2:=by
  show(BitVec.ofInt 32 (n:Int) &&& BitVec.ofInt 32 1).toNat=_;rw[BitVec.toNat_and];have e1:(BitVec.ofInt 32 (n:Int)).toNat=n:=by simp;omega
  have e2:(BitVec.ofInt 32 1).toNat=1:=by decide
  rw[e1,e2,Nat.and_one_is_mod]
 rw[e,wrap_u32];omega
def sp(a:List Int)(i:Int):Prop×List D:=(cE a/\a.length<=1099511627776/\-9223372036854775808<=i/\i<9223372036854775808,[.s (.sc (.int .i64 (if i<0 then 0 else((val a/2^i.toNat%2:Nat):Int))))])
theorem spec:fI E f227 aE (pI .u32) (pN .i64) sp:=by
 rintro a i ⟨ha,hl,h1,h2⟩;refine(start a i).trans ?_;show _=some [D.s (.sc (.int .i64 (if i<0 then 0 else((val a/2^i.toNat%2:Nat):Int))))]
 by_cases hn:i<0
 ·rw[aN hn,if_pos hn]
 ·have t1:i.tdiv 32=i/32:=bTL (by omega);have t2:i.tmod 32=i%32:=bTM (by omega);have e1:(i/32).toNat=i.toNat/32:=by omega
  have e2:(i%32).toNat=i.toNat%32:=by omega
  rw[aI hn,if_neg hn,t1,wrap_i64 (n:=i/32),Cb i.toNat,<-bRN]
  by_cases hz:(a.length:Int)<=i/32
  ·have hv:val a/4294967296^(i.toNat/32)=0:=by
    apply bRT;exact bMW (cO ha) (fQ)
   rw[aN hz,hv,bVQ];rfl
  ·have g:=ha.get (i.toNat/32);rw[aI hz,fR,t1,t2,wrap_i64 (n:=i/32),aT,aX,e1,e2,<-jD ha,fY];have em:min (i.toNat%32) 32=i.toNat%32:=by omega
   have iN:i.toNat%32<32:=bOE _ (by omega);rw[em];generalize i.toNat%32=k at *;generalize a.getD (i.toNat/32) 0=x at *;generalize val (a.drop (i.toNat/32+1))=r at *;have hp:0<2^k:=cP;have e3:(x.toNat+4294967296*r)/2^k%2=x.toNat/2^k%2:=by
    have:4294967296*r=2^k*(2*(2^(31-k)*r)):=by
     rw[show(4294967296:Nat)=2^32 from rfl,show 32=k+(1+(31-k))from by omega,bQX,bQX,bQZ,bQZ]
    rw[this,Nat.add_mul_div_left _ _ hp];omega
   rw[e3];have ex:x/((2^k:Nat):Int)=((x.toNat/2^k:Nat):Int):=by
    obtain⟨n,rfl⟩:=bQY g.1;rw[<-Int.natCast_ediv];rfl
   have hle:x.toNat/2^k<=x.toNat:=bUJ _ _;rw[ex];clear ex e3;generalize x.toNat/2^k=q at *;rw[aAA (by omega) (by omega),wrap_i64];rfl
def aH:dG:=orc2 (pI .u32) (pN .i64) sp
theorem ok:OK 227 aH:=(eF E aE aD func227).lA rfl spec
end aXH
namespace aMK
def bGS(a b:Int):Int:=a/b+(if b<a%b*2\/(a%b*2=b/\a/b%2≠0)then 1 else 0)
end aMK
end W
namespace M
open Go AI W
def t7(m e:Int):Int:=(if(bl m.natAbs:Int)+e>0 then(bl m.natAbs:Int)+e else 0)+4
def x7(m e q:Int):Int:=Ny.bCX m (e+(q+t7 m e))
def bCV(m e q:Int):Bool:=decide (t7 m e=4)&&decide (((x7 m e q).natAbs:Int)*4<=((2^(q+t7 m e).toNat*3:Nat):Int))
def k7(m e q:Int):Int:=bif bCV m e q then 0 else aMK.bGS (x7 m e q*2) (R.pF (q+t7 m e).toNat:Nat)
def y7(m e q:Int):Int:=bif bCV m e q then Ny.bCX m (e+q)else(x7 m e q*2-k7 m e q*(R.pF (q+t7 m e).toNat:Nat))/((2^(t7 m e+1).toNat:Nat):Int)
end M
namespace M
open Go AI W
def bGG(k s c:Int):Int:=if k%4=0 then s else if k%4=1 then c else if k%4=2 then -s else -c
def vS(m e q:Int):Int:=bGG (k7 m e q) (aXJ (y7 m e q) q.toNat) (bBW (y7 m e q) q.toNat)
end M
namespace W
open Go AI M
namespace To
def E:=mE [(134,Norm.aH)] 44 [] [(4,[3,4,5])] []
def aE:=bd f179
theorem aU:Nk E aE:=nk
def L4 a (b:Nat) (c:List Int) d:=nO E f179 aE 4 [wA a,yG 1 b 22 c,bP d]
theorem start a:aF E f179 aE [D.s (ints u32 a)]=letI A:=i64.wrap ((↑(dg (val a)).length:Int).tdiv 2)+1;aO (cE a/\a.length<=4398046511104) (if(0:Int)<=(0:Int)/\0<=i64.wrap A/\i64.wrap A<=8796093022208 then To.L4 (dg (val a)) 0 (bNZ 0 (0:Int)) 0 else none):=eJ aU
theorem kS a b c d:L4 a b c d=letI C:=(a.length:Int);letI B:=a.getD d.toNat 0;letI G:=c.length+[u64.wrap B].length;letI A:=u64.wrap B+u64.wrap (u64.wrap (a.getD (i64.wrap (d+1)).toNat 0)*4294967296);letI F:=c.length+[u64.wrap A].length;aB (decide (d<C)) (if 0<=d/\d<C then aB (decide (i64.wrap (d+1)<C)) (if 0<=i64.wrap (d+1)/\i64.wrap (d+1)<C then if(0:Nat)<[u64.wrap A].length/\(F:Int)<=(8796093022208:Int)then To.L4 a F (c ++ [u64.wrap A]) (i64.wrap (d+2))else none else none) (if(0:Nat)<[u64.wrap B].length/\(G:Int)<=(8796093022208:Int)then To.L4 a G (c ++ [u64.wrap B]) (i64.wrap (d+2))else none)else none) (some [D.own 22 u64 c]):=lJ aU
theorem L{d:List Int}(hd:cF d)(hl:d.length<=4398046511104):∀(k i:Nat) (xs:List Int),i+k>=d.length->i<=d.length+1->xs.length<=i ->
  L4 d xs.length xs i=some [D.own eX .u64 (xs ++ M6.dg (val (d.drop i)))]:=by
 intro k
 induction k using Nat.strongRecOn with
 |_ k ih =>
  intro i xs hk hi Sc;rw[kS]
  by_cases h:i<d.length
  ·have g0:=hd.iU.get i;have g1:=hd.iU.get (i+1);have e':((i:Int)).toNat=i:=bPS i;have e1:((i:Int)+1).toNat=i+1:=by omega
   have hz:val (d.drop i)≠0:=by
    intro h0;have hn:cF (d.drop i):=wL (hd.iU.drop i) fun e he=>hd.top (by
     rw[List.getLast?_drop]at he;rw[aX]at he;exact he)
    have:=(cS hn).2 h0;rw[bPV]at this;omega
   have ev:=fY (a:=d) i;have ev1:val (d.drop (i+1))=(d.getD (i+1) 0).toNat+4294967296*val (d.drop (i+2)):=fY (i+1);have key:M6.dg (val (d.drop i))=(d.getD i 0+d.getD (i+1) 0*4294967296) :: M6.dg (val (d.drop (i+2))):=by
    rw[M6.mP hz];congr 1
    ·omega
    ·congr 1;omega
   rw[aN,aT,e',wrap_i64 (n:=(i:Int)+1),wrap_i64 (n:=(i:Int)+2),e1,wrap_u64 (n:=d.getD i 0),wrap_u64 (n:=d.getD (i+1) 0),
    wrap_u64 (n:=d.getD (i+1) 0*4294967296),wrap_u64]
   by_cases h1:i+1<d.length
   ·rw[aN,aT,if_pos ⟨by simp,by simp;omega⟩];have:=ih (k-2) (by omega) (i+2) (xs ++ [d.getD i 0+d.getD (i+1) 0*4294967296]) (by omega) (by omega) (by simp;omega);simp only[bMZ,bPG,bPH]at this ⊢;rw[show((i:Int)+2)=((i+2:Nat):Int)from by omega,this,key,bNR];rfl
   ·have aWV:d.getD (i+1) 0=0:=getD_none (by omega);rw[aI,if_pos ⟨by simp,by simp;omega⟩];have:=ih (k-1) (by omega) (i+2) (xs ++ [d.getD i 0]) (by omega) (by omega) (by simp;omega);simp only[bMZ,bPG,bPH]at this ⊢;rw[show((i:Int)+2)=((i+2:Nat):Int)from by omega,this,key,aWV,Int.zero_mul,Int.add_zero,bNR];rfl
  ·rw[aI,List.drop_eq_nil_of_le (by omega)];simp[val,M6.bJ]
def sp(a:List Int):Prop×List D:=(cE a/\a.length<=1099511627776,[.own eX .u64 (M6.dg (val a))])
theorem spec:gO E f179 aE (pI .u32) sp:=by
 rintro a ⟨ha,h1⟩;refine(start a).trans ?_;have:=oU ha;rw[gP ⟨ha,by omega⟩,bTL (by omega),wrap_i64 (n:=((dg (val a)).length:Int)/2) (by omega) (by omega),wrap_i64,if_pos ⟨by omega,by omega,by omega⟩];have:=L (aW (val a)) (by omega) (dg (val a)).length 0 [] (by omega) (by omega) (by simp);simp only[bPH,List.drop_zero,bPY,bI]at this;exact this
def aH:dG:=orc1 (pI .u32) sp
theorem ok:OK 179 aH:=(eF E aE (aA Norm.ok aD) func179).nN rfl spec
end To
end W
namespace M
open Go AI W
def Real(b:Int):Prop:=(0<=b/\b<18446744073709551616)/\xE.aPJ b≠0/\xE.aPJ b≠3/\xE.aPJ b≠4
theorem Real.n{b:Int}(h:Real b):aQI (bM.lZ 64 b) (bM.mA 64 b):=(Rp.aPD h.1 h.2.1 h.2.2.1 h.2.2.2).2.2
theorem Real.x{b:Int}(h:Real b):aVZ (rL.aRD b):=bBV h.n
theorem Real.q{b:Int}(_h:Real b):R.qz (rL.aRD b)=R.qz (bM.lZ 64 b,bM.mA 64 b):=mB _ _
end M
namespace W
open Go AI M
namespace Ih
theorem Wq{p:Int×Int}{g:Int}(h:g<=p.2):R.qz p=((p.1*2^(p.2-g).toNat:Int):Rat)*R.pz g:=by
 obtain⟨k,hk⟩:=bQY (show 0<=p.2-g by omega);have e:p.2=g+(k:Int):=by omega
 unfold R.qz;rw[hk,bPS,e,R.dT,bWR];have:(((2:Int)^k:Int):Rat)=((2^k:Nat):Rat):=by norm_cast
 rw[this];grind
end Ih
namespace bCC
def E:=mE [(179,To.aH)] 15 [] [] []
def aE:=bd f133
theorem aU:Nk E aE:=nk
theorem start a b:aF E f133 aE [D.agg [sc (bool a),ints u32 b]]=letI A:=cE b/\b.length<=1099511627776;aB a (aO A (some [D.agg [sc (bool (decide (0<(b.length:Int)))),ints u64 (M6.dg (val b))]])) (aO A (some [D.agg [sc (bool false),ints u64 (M6.dg (val b))]])):=eJ aU
def sp(x:Bool×List Int):Prop×List D:=(aGA x,[wD (zv x)])
theorem spec:gO E f133 aE aWC sp:=by
 intro x h;have h:aGA x:=h;have l:=h.len;have hz:=cS h.1;refine(start x.1 x.2).trans ?_;obtain⟨b,a⟩:=x
 try dsimp only at *
 show _=some [wD (zs b (val a))];rw[aKT];cases b with
 |false=>rw[bF,gP ⟨h.1.iU,by omega⟩];rfl
 |true =>
  rw[bT,gP ⟨h.1.iU,by omega⟩,bOX];have:decide (0<(a.length:Int))=decide (val a≠0):=by
   by_cases h:val a=0
   ·rw[decide_eq_false (by omega),decide_eq_false (by omega)]
   ·rw[decide_eq_true (by omega),decide_eq_true h]
  rw[this]
def aH:dG:=orc1 aWC sp
theorem ok:OK 133 aH:=(eF E aE (aA To.ok aD) func133).nN rfl spec
end bCC
namespace aGF
def E:=mE [] 26 [] [(4,[0,1,5])] []
def aE:=bd f75
theorem aU:Nk E aE:=nk
def L4 a b c:=nO E f75 aE 4 [fW a,fW b,bP c]
theorem start a b:aF E f75 aE [D.s (ints u64 a),D.s (ints u64 b)]=aB ((a.length:Int) !=(b.length:Int)) (some [D.s (sc (bool false))]) (aGF.L4 a b 0):=eJ aU
theorem kS a b c:L4 a b c=aB (decide (c<(a.length:Int))) (if 0<=c/\c<(a.length:Int)then if 0<=c/\c<(b.length:Int)then aB (a.getD c.toNat 0 !=b.getD c.toNat 0) (some [D.s (sc (bool false))]) (aGF.L4 a b (i64.wrap (c+1)))else none else none) (some [D.s (sc (bool true))]):=lJ aU
theorem L{a b:List Int}(hl:a.length=b.length)(h:a.length<=4398046511104):∀(d i:Nat),i+d=a.length->a.take i=b.take i->L4 a b (i:Int)=some [D.s (.sc (.bool (decide (a=b))))]:=by
 intro d
 induction d with
 |zero =>
  intro i hd hv;rw[bTH (by omega),bTH (by omega)]at hv;rw[kS,aI,decide_eq_true hv]
 |succ d ih =>
  intro i hd hv;rw[kS,aN,aT,aT,bPS];have ga:a.getD i 0=a[i]'(by omega):=by simp[bRA,show i<a.length by omega]
  have gb:b.getD i 0=b[i]'(by omega):=by simp[bRA,show i<b.length by omega]
  by_cases hc:a.getD i 0=b.getD i 0
  ·rw[fD hc,wrap_i64];refine ih (i+1) (by omega) ?_;rw[bSB (by omega),bSB (by omega),hv,<-ga,<-gb,hc]
  ·rw[qF hc,decide_eq_false (fun h=>hc (by rw[h]))]
def sp(a b:List Int):Prop×List D:=(a.length<=4398046511104/\b.length<=4398046511104,[.s (.sc (.bool (decide (a=b))))])
theorem spec:fI E f75 aE (pI .u64) (pI .u64) sp:=by
 rintro a b ⟨h1,h2⟩;refine(start a b).trans ?_
 by_cases hl:a.length=b.length
 ·rw[fD];exact L hl h1 a.length 0 (by omega) rfl
 ·rw[qF];unfold sp;rw[decide_eq_false (fun h=>hl (by rw[h]))]
def aH:dG:=orc2 (pI .u64) (pI .u64) sp
theorem ok:OK 75 aH:=(eF E aE aD func75).lA rfl spec
end aGF
end W
namespace M
open Go AI W
open Classical in
def kx (b:Int):Int:=if h:∃k,R.aVS (R.qz (rL.aRD b)) k then Classical.choose h else 0
def vx(fn b:Int):Rat:=R.fv fn (R.qz (rL.aRD b)) (kx b)
theorem aRY:R.qz (0,0)=0:=R.nA rfl
end M
namespace W
open Go AI M
namespace Bj
def E:=mE [(62,zO.aH)] 9 [] [] []
def aE:=bd f104
theorem aU:Nk E aE:=nk
theorem start a b c d e f:aF E f104 aE [D.agg [sc (bool a),ints u64 b,sc (int i64 c)],D.agg [sc (bool d),ints u64 e,sc (int i64 f)]]=aO (aJ (a,b,c)/\aJ (d,e,f)) (some [D.s (sc (bool (decide (0<bZ (dv (a,b,c)) (dv (d,e,f))))))]):=eJ aU
def sp(x y:dR):Prop×List D:=(aJ x/\aJ y,[.s (.sc (.bool (decide (0<bZ (dv x) (dv y)))))])
theorem spec:fI E f104 aE gZ gZ sp:=by
 intro x y h;exact(start x.1 x.2.1 x.2.2 y.1 y.2.1 y.2.2).trans (gP h)
def aH:dG:=orc2 gZ gZ sp
theorem ok:OK 104 aH:=(eF E aE (aA zO.ok aD) func104).lA rfl spec
end Bj
namespace gE
def E:=mE [(104,Bj.aH)] 25 [] [(3,[1,4,5,12,13,14])] []
def aE:=bd f102
theorem aU:Nk E aE:=nk
def L3 a b c d e (f:Nat) (g:Nat->Bool) (h:Nat->List Int) (j:Nat->Int) k l:=nO E f102 aE 3 [vA (sc (Value.func (Fn.func 104) { toList:=[] } { toList:=[] })),cQ 1 29 [bW a,sc (slice none 0 0),cI b],cQ 2 29 [bW c,dZ d,cI e],(A.v (V.one (L.rows 3 f fun i=>[sc (bool (g i)),ints u64 (h i),sc (int i64 (j i))])),none),bP k,bP l]
theorem start(a:dR)(b:dR):aF E f102 aE [D.rows 3 2 fun i=>[sc (bool (t2 a b i).fst),ints u64 (t2 a b i).snd.fst,sc (int i64 (t2 a b i).snd.snd)],D.s (sc (Value.func (Fn.func (104:FuncId)) #[] #[]))]=letI A:=t2 a b (bZQ 0);gE.L3 false 0 A.fst A.snd.fst A.snd.snd 1 (fun i=>(t2 a b (bZQ 1+i)).fst) (fun i=>(t2 a b (bZQ 1+i)).snd.fst) (fun i=>(t2 a b (bZQ 1+i)).snd.snd) 1 0:=eJ aU
theorem pQ a b c d e f g h j k l:L3 a b c d e f g h j k l=letI A:=(g l.toNat,h l.toNat,j l.toNat);aB (decide (l<k)) (if 0<=l/\l<(f:Int)then aO (aJ A/\aJ (c,d,e)) (aB (decide (0<bZ (dv A) (dv (c,d,e)))) (gE.L3 a b (g l.toNat) (h l.toNat) (j l.toNat) f (fun i=>g i) (fun i=>h i) (fun i=>j i) k (i64.wrap (l+1))) (gE.L3 a b c d e f (fun i=>g i) (fun i=>h i) (fun i=>j i) k (i64.wrap (l+1))))else none) (some [D.agg [sc (bool c),ints u64 d,sc (int i64 e)]]):=lJ aU
def eB(f:Nat->dR):Nat->dR
 |0=>f 0
 |k+1=>bif decide (0<bZ (dv (f (k+1))) (dv (eB f k)))then f (k+1)else eB f k
def oZ(a:dR×dR):dR:=eB (t2 a.1 a.2) 1
def sp(a:dR×dR)(u:Unit):Prop×List D:=(aJ a.1/\aJ a.2,[.agg [.sc (.bool (oZ a).1),.ints .u64 (oZ a).2.1,.sc (.int .i64 (oZ a).2.2)]])
theorem kJ{f:Nat->dR}{n:Nat}(hf:∀i,i<n->aJ (f i)):∀k,k<n->aJ (eB f k)
 |0,h=>hf 0 h
 |k+1,h=>by
  unfold eB;cases decide (0<bZ (dv (f (k+1))) (dv (eB f k)))
  ·exact kJ hf k (by omega)
  ·exact hf (k+1) h
theorem L(b0:Bool)(x1:Int)(n:Nat)(f:Nat->dR)(hn:n<1000)(hf:∀i,i<n+1->aJ (f i)):∀d k:Nat,k+d=n->L3 b0 x1 (eB f k).1 (eB f k).2.1 (eB f k).2.2 n (fun i=>(f (1+i)).1) (fun i=>(f (1+i)).2.1) (fun i=>(f (1+i)).2.2) (n:Int) (k:Int)=some [.agg [.sc (.bool (eB f n).1),.ints .u64 (eB f n).2.1,.sc (.int .i64 (eB f n).2.2)]]
 |0,k,h=>by
  obtain rfl:k=n:=by omega
  rw[pQ,aI]
 |d+1,k,h=>by
  have e:i64.wrap ((k:Int)+1)=((k+1:Nat):Int):=by rw[wrap_i64];omega
  have r:=L b0 x1 n f hn hf d (k+1) (by omega);have g1:aJ (f (1+k)):=hf _ (by omega);have g2:aJ (eB f k):=kJ hf k (by omega);have c1:f (k+1)=f (1+k):=by rw[bRX]
  rw[pQ,aN,aT,bPS,gP ⟨g1,g2⟩,e]
  by_cases hc:0<bZ (dv (f (k+1))) (dv (eB f k))
  ·have hb:eB f (k+1)=f (1+k):=by
    rw[<-c1];show(bif decide (0<bZ (dv (f (k+1))) (dv (eB f k)))then f (k+1)else eB f k)=_;rw[decide_eq_true hc];rfl
   rw[c1]at hc;rw[aN hc];rw[hb]at r;exact r
  ·have hb:eB f (k+1)=eB f k:=by
    show(bif decide (0<bZ (dv (f (k+1))) (dv (eB f k)))then f (k+1)else eB f k)=_;rw[decide_eq_false hc];rfl
   rw[c1]at hc;rw[aI hc];rw[hb]at r;exact r
theorem all{a:dR×dR}(h:aJ a.1/\aJ a.2):∀i,i<2->aJ (t2 a.1 a.2 i):=fun i hi=>by
  obtain rfl |rfl:i=0\/i=1:=by omega
  ·exact h.1
  ·exact h.2
theorem vE{a:dR×dR}(h:aJ a.1/\aJ a.2):aJ (oZ a):=kJ (n:=2) (all h) 1 (by decide)
theorem Hq(a:dR×dR):dv (oZ a)=xY (dv a.1) (dv a.2):=by
 show dv (bif decide (0<bZ (dv a.2) (dv a.1))then a.2 else a.1)=bif decide (0<bZ (dv a.2) (dv a.1))then dv a.2 else dv a.1
 cases decide (0<bZ (dv a.2) (dv a.1)) <;> rfl
theorem spec:fI E f102 aE (aAJ (.pair sB (.pair (sI .u64) (sN .i64))) (false,[],0)) (pFn 104) sp:=fun a u h =>
 (start a.1 a.2).trans (L false 0 1 (t2 a.1 a.2) (by decide) (all h) 1 0 (by decide))
def aH:dG:=orc2 (aAJ (.pair sB (.pair (sI .u64) (sN .i64))) (false,[],0)) (pFn 104) sp
theorem ok:OK 102 aH:=(eF E aE (aA Bj.ok aD) func102).lA rfl spec
end gE
namespace Ie
def E:=mE [(102,gE.aH)] 5 [] [] []
def aE:=bd f44
theorem aU:Nk E aE:=nk
theorem start(a:dR)(b:dR):aF E f44 aE [D.rows 3 2 fun i=>[sc (bool (t2 a b i).fst),ints u64 (t2 a b i).snd.fst,sc (int i64 (t2 a b i).snd.snd)]]=letI C:=t2 a b 1;letI B:=t2 a b 0;letI F:=(B.fst,B.snd.fst,B.snd.snd);letI A:=gE.oZ (F,C.fst,C.snd.fst,C.snd.snd);aO (aJ F/\aJ (C.fst,C.snd.fst,C.snd.snd)) (some [D.agg [sc (bool A.fst),ints u64 A.snd.fst,sc (int i64 A.snd.snd)]]):=eJ aU
def sp(a:dR×dR):Prop×List D:=(aJ a.1/\aJ a.2,[.agg [.sc (.bool (gE.oZ a).1),.ints .u64 (gE.oZ a).2.1,.sc (.int .i64 (gE.oZ a).2.2)]])
theorem spec:gO E f44 aE (aAJ (.pair sB (.pair (sI .u64) (sN .i64))) (false,[],0)) sp:=fun a h =>
 (start a.1 a.2).trans (gP h)
def aH:dG:=orc1 (aAJ (.pair sB (.pair (sI .u64) (sN .i64))) (false,[],0)) sp
theorem ok:OK 44 aH:=(eF E aE (aA gE.ok aD) func44).nN rfl spec
end Ie
namespace Bi
def E:=mE [(62,zO.aH)] 9 [] [] []
def aE:=bd f103
theorem aU:Nk E aE:=nk
theorem start a b c d e f:aF E f103 aE [D.agg [sc (bool a),ints u64 b,sc (int i64 c)],D.agg [sc (bool d),ints u64 e,sc (int i64 f)]]=aO (aJ (a,b,c)/\aJ (d,e,f)) (some [D.s (sc (bool (decide (bZ (dv (a,b,c)) (dv (d,e,f))<0))))]):=eJ aU
def sp(x y:dR):Prop×List D:=(aJ x/\aJ y,[.s (.sc (.bool (decide (bZ (dv x) (dv y)<0))))])
theorem spec:fI E f103 aE gZ gZ sp:=by
 intro x y h;exact(start x.1 x.2.1 x.2.2 y.1 y.2.1 y.2.2).trans (gP h)
def aH:dG:=orc2 gZ gZ sp
theorem ok:OK 103 aH:=(eF E aE (aA zO.ok aD) func103).lA rfl spec
end Bi
namespace gQ
def E:=mE [(103,Bi.aH)] 25 [] [(3,[1,4,5,12,13,14])] []
def aE:=bd f102
theorem aU:Nk E aE:=nk
def L3 a b c d e (f:Nat) (g:Nat->Bool) (h:Nat->List Int) (j:Nat->Int) k l:=nO E f102 aE 3 [vA (sc (Value.func (Fn.func 103) { toList:=[] } { toList:=[] })),cQ 1 29 [bW a,sc (slice none 0 0),cI b],cQ 2 29 [bW c,dZ d,cI e],(A.v (V.one (L.rows 3 f fun i=>[sc (bool (g i)),ints u64 (h i),sc (int i64 (j i))])),none),bP k,bP l]
theorem start(a:dR)(b:dR):aF E f102 aE [D.rows 3 2 fun i=>[sc (bool (t2 a b i).fst),ints u64 (t2 a b i).snd.fst,sc (int i64 (t2 a b i).snd.snd)],D.s (sc (Value.func (Fn.func (103:FuncId)) #[] #[]))]=letI A:=t2 a b (bZQ 0);gQ.L3 false 0 A.fst A.snd.fst A.snd.snd 1 (fun i=>(t2 a b (bZQ 1+i)).fst) (fun i=>(t2 a b (bZQ 1+i)).snd.fst) (fun i=>(t2 a b (bZQ 1+i)).snd.snd) 1 0:=eJ aU
theorem pQ a b c d e f g h j k l:L3 a b c d e f g h j k l=letI A:=(g l.toNat,h l.toNat,j l.toNat);aB (decide (l<k)) (if 0<=l/\l<(f:Int)then aO (aJ A/\aJ (c,d,e)) (aB (decide (bZ (dv A) (dv (c,d,e))<0)) (gQ.L3 a b (g l.toNat) (h l.toNat) (j l.toNat) f (fun i=>g i) (fun i=>h i) (fun i=>j i) k (i64.wrap (l+1))) (gQ.L3 a b c d e f (fun i=>g i) (fun i=>h i) (fun i=>j i) k (i64.wrap (l+1))))else none) (some [D.agg [sc (bool c),ints u64 d,sc (int i64 e)]]):=lJ aU
def eB(f:Nat->dR):Nat->dR
 |0=>f 0
 |k+1=>bif decide (bZ (dv (f (k+1))) (dv (eB f k))<0)then f (k+1)else eB f k
def oZ(a:dR×dR):dR:=eB (t2 a.1 a.2) 1
def sp(a:dR×dR)(u:Unit):Prop×List D:=(aJ a.1/\aJ a.2,[.agg [.sc (.bool (oZ a).1),.ints .u64 (oZ a).2.1,.sc (.int .i64 (oZ a).2.2)]])
theorem kJ{f:Nat->dR}{n:Nat}(hf:∀i,i<n->aJ (f i)):∀k,k<n->aJ (eB f k)
 |0,h=>hf 0 h
 |k+1,h=>by
  unfold eB;cases decide (bZ (dv (f (k+1))) (dv (eB f k))<0)
  ·exact kJ hf k (by omega)
  ·exact hf (k+1) h
theorem L(b0:Bool)(x1:Int)(n:Nat)(f:Nat->dR)(hn:n<1000)(hf:∀i,i<n+1->aJ (f i)):∀d k:Nat,k+d=n->L3 b0 x1 (eB f k).1 (eB f k).2.1 (eB f k).2.2 n (fun i=>(f (1+i)).1) (fun i=>(f (1+i)).2.1) (fun i=>(f (1+i)).2.2) (n:Int) (k:Int)=some [.agg [.sc (.bool (eB f n).1),.ints .u64 (eB f n).2.1,.sc (.int .i64 (eB f n).2.2)]]
 |0,k,h=>by
  obtain rfl:k=n:=by omega
  rw[pQ,aI]
 |d+1,k,h=>by
  have e:i64.wrap ((k:Int)+1)=((k+1:Nat):Int):=by rw[wrap_i64];omega
  have r:=L b0 x1 n f hn hf d (k+1) (by omega);have g1:aJ (f (1+k)):=hf _ (by omega);have g2:aJ (eB f k):=kJ hf k (by omega);have c1:f (k+1)=f (1+k):=by rw[bRX]
  rw[pQ,aN,aT,bPS,gP ⟨g1,g2⟩,e]
  by_cases hc:bZ (dv (f (k+1))) (dv (eB f k))<0
  ·have hb:eB f (k+1)=f (1+k):=by
    rw[<-c1];show(bif decide (bZ (dv (f (k+1))) (dv (eB f k))<0)then f (k+1)else eB f k)=_;rw[decide_eq_true hc];rfl
   rw[c1]at hc;rw[aN hc];rw[hb]at r;exact r
  ·have hb:eB f (k+1)=eB f k:=by
    show(bif decide (bZ (dv (f (k+1))) (dv (eB f k))<0)then f (k+1)else eB f k)=_;rw[decide_eq_false hc];rfl
   rw[c1]at hc;rw[aI hc];rw[hb]at r;exact r
theorem all{a:dR×dR}(h:aJ a.1/\aJ a.2):∀i,i<2->aJ (t2 a.1 a.2 i):=fun i hi=>by
  obtain rfl |rfl:i=0\/i=1:=by omega
  ·exact h.1
  ·exact h.2
theorem vE{a:dR×dR}(h:aJ a.1/\aJ a.2):aJ (oZ a):=kJ (n:=2) (all h) 1 (by decide)
theorem Hq(a:dR×dR):dv (oZ a)=An (dv a.1) (dv a.2):=by
 show dv (bif decide (bZ (dv a.2) (dv a.1)<0)then a.2 else a.1)=bif decide (bZ (dv a.2) (dv a.1)<0)then dv a.2 else dv a.1
 cases decide (bZ (dv a.2) (dv a.1)<0) <;> rfl
theorem spec:fI E f102 aE (aAJ (.pair sB (.pair (sI .u64) (sN .i64))) (false,[],0)) (pFn 103) sp:=fun a u h =>
 (start a.1 a.2).trans (L false 0 1 (t2 a.1 a.2) (by decide) (all h) 1 0 (by decide))
def aH:dG:=orc2 (aAJ (.pair sB (.pair (sI .u64) (sN .i64))) (false,[],0)) (pFn 103) sp
theorem ok:OK 102 aH:=(eF E aE (aA Bi.ok aD) func102).lA rfl spec
end gQ
namespace Ic
def E:=mE [(102,gQ.aH)] 5 [] [] []
def aE:=bd f43
theorem aU:Nk E aE:=nk
theorem start(a:dR)(b:dR):aF E f43 aE [D.rows 3 2 fun i=>[sc (bool (t2 a b i).fst),ints u64 (t2 a b i).snd.fst,sc (int i64 (t2 a b i).snd.snd)]]=letI C:=t2 a b 1;letI B:=t2 a b 0;letI F:=(B.fst,B.snd.fst,B.snd.snd);letI A:=gQ.oZ (F,C.fst,C.snd.fst,C.snd.snd);aO (aJ F/\aJ (C.fst,C.snd.fst,C.snd.snd)) (some [D.agg [sc (bool A.fst),ints u64 A.snd.fst,sc (int i64 A.snd.snd)]]):=eJ aU
def sp(a:dR×dR):Prop×List D:=(aJ a.1/\aJ a.2,[.agg [.sc (.bool (gQ.oZ a).1),.ints .u64 (gQ.oZ a).2.1,.sc (.int .i64 (gQ.oZ a).2.2)]])
theorem spec:gO E f43 aE (aAJ (.pair sB (.pair (sI .u64) (sN .i64))) (false,[],0)) sp:=fun a h =>
 (start a.1 a.2).trans (gP h)
def aH:dG:=orc1 (aAJ (.pair sB (.pair (sI .u64) (sN .i64))) (false,[],0)) sp
theorem ok:OK 43 aH:=(eF E aE (aA gQ.ok aD) func43).nN rfl spec
end Ic
namespace xH
def E:=mE [(45,pO.aH),(44,Ie.aH),(43,Ic.aH),(62,zO.aH),(105,Ia.aH)] 39 [] [(3,[2,3,4])] [3]
def aE:=bd f48
theorem aU:Nk E aE:=nk
def J3 a b c d e f g h i j k l m n o p:=kV E f48 aE 3 [cQ 0 31 [bW a,dZ b,cI c,bW d,dZ e,cI f],cQ 1 31 [bW g,dZ h,cI i,bW j,dZ k,cI l],cQ 2 31 [bW m,sc (slice none 0 0),cI n,bW o,sc (slice none 0 0),cI p]]
theorem start a b c d e f g h i j k l:aF E f48 aE [D.agg [sc (bool a),ints u64 b,sc (int i64 c),sc (bool d),ints u64 e,sc (int i64 f)],D.agg [sc (bool g),ints u64 h,sc (int i64 i),sc (bool j),ints u64 k,sc (int i64 l)]]=aO (dP (a,b,c,d,e,f)) (aO (dP (g,h,i,j,k,l)) (xH.J3 a b c d e f g h i j k l false 0 false 0)):=eJ aU
theorem fR a b c d e f g h i j k l m n o p:J3 a b c d e f g h i j k l m n o p=letI F:=bool false;letI C:=int i64 0;letI B:=gQ.oZ ((d,e,f),j,k,l);letI A:=gE.oZ ((a,b,c),g,h,i);aO (aJ (a,b,c)/\aJ (g,h,i)) (aC A.fst fun q=>aC A.snd.fst fun r=>aC A.snd.snd fun s=>aO (aJ (d,e,f)/\aJ (j,k,l)) (aC B.fst fun t=>aC B.snd.fst fun u=>aC B.snd.snd fun v=>aO (aJ (q,r,s)/\aJ (t,u,v)) (aC (bZ (dv (q,r,s)) (dv (t,u,v))) fun w=>aB (decide (0<w)) (some [D.agg [sc F,sc (slice none 0 0),sc C,sc F,sc (slice none 0 0),sc C],D.s (sc F),D.s (sc C)]) (aO (r.length<=1099511627776/\u.length<=1099511627776) (some [D.agg [sc (bool q),ints u64 r,sc (int i64 s),sc (bool t),ints u64 u,sc (int i64 v)],D.s (sc (bool true)),D.s (sc C)]))))):=cJ aU
def meet(s t:qN):Bool:=!decide (0<bZ (xY (dv (fB s)) (dv (fB t))) (An (dv (fF s)) (dv (fF t))))
def aHD(s t:qN):dR:=gE.oZ (fB s,fB t)
def aHE(s t:qN):dR:=gQ.oZ (fF s,fF t)
def sp(s t:qN):Prop×List D:=(dP s/\dP t,[.agg [.sc (.bool (bif meet s t then(aHD s t).1 else false)),.ints .u64 (bif meet s t then(aHD s t).2.1 else []),.sc (.int .i64 (bif meet s t then(aHD s t).2.2 else 0)),.sc (.bool (bif meet s t then(aHE s t).1 else false)),.ints .u64 (bif meet s t then(aHE s t).2.1 else []),.sc (.int .i64 (bif meet s t then(aHE s t).2.2 else 0))],.s (.sc (.bool (meet s t))),.s (.sc (.int .i64 0))])
theorem spec:El E f48 aE qK qK sp:=by
 rintro s t ⟨h1,h2⟩;have e:=start s.1 s.2.1 s.2.2.1 s.2.2.2.1 s.2.2.2.2.1 s.2.2.2.2.2 t.1 t.2.1 t.2.2.1 t.2.2.2.1 t.2.2.2.2.1 t.2.2.2.2.2;have g1:aJ (aHD s t):=gE.vE ⟨h1.1,h2.1⟩;have g2:aJ (aHE s t):=gQ.vE ⟨h1.2.1,h2.2.1⟩;have l1:=g1.len;have l2:=g2.len;have v1:dv (aHD s t)=xY (dv (fB s)) (dv (fB t)):=gE.Hq (fB s,fB t);have v2:dv (aHE s t)=An (dv (fF s)) (dv (fF t)):=gQ.Hq (fF s,fF t);have x1:gE.oZ ((s.1,s.2.1,s.2.2.1),t.1,t.2.1,t.2.2.1)=aHD s t:=rfl;have x2:gQ.oZ ((s.2.2.2.1,s.2.2.2.2.1,s.2.2.2.2.2),t.2.2.2.1,t.2.2.2.2.1,t.2.2.2.2.2)=aHE s t:=rfl;have y1:((aHD s t).1,(aHD s t).2.1,(aHD s t).2.2)=aHD s t:=rfl;have y2:((aHE s t).1,(aHE s t).2.1,(aHE s t).2.2)=aHE s t:=rfl;rw[gP h1,gP h2,fR,gP ⟨h1.1,h2.1⟩]at e;simp only[aK,x1,x2,y1,y2,v1,v2]at e;rw[gP ⟨h1.2.1,h2.2.1⟩,gP ⟨g1,g2⟩]at e;unfold sp
 by_cases c:0<bZ (xY (dv (fB s)) (dv (fB t))) (An (dv (fF s)) (dv (fF t)))
 ·have hm:meet s t=false:=by unfold meet;rw[decide_eq_true c];rfl
  rw[aN c]at e;refine⟨_,e,?_⟩;dsimp only;rw[hm];exact .cons (vW.agg (.cons (yN.refl _) (.cons (yN.nil _) (.cons (yN.refl _) (.cons (yN.refl _) (.cons (yN.nil _) (uH.refl _))))))) (fP.refl _)
 ·have hm:meet s t=true:=by unfold meet;rw[decide_eq_false c];rfl
  rw[aI c,gP ⟨by omega,by omega⟩]at e;refine⟨_,e,?_⟩;dsimp only;rw[hm];exact fP.refl _
def aH:dG:=orc2 qK qK sp
theorem ok:OK 48 aH:=(eF E aE (aA pO.ok (aA Ie.ok (aA Ic.ok (aA zO.ok (aA Ia.ok aD))))) func48).aAF rfl spec
end xH
end W
namespace M
open Go AI W
theorem aIS{s t:qN}{V:Rat}(h1:R.qz (dv (fB s))<=V/\V<=R.qz (dv (fF s)))(h2:R.qz (dv (fB t))<=V/\V<=R.qz (dv (fF t))):xH.meet s t=true:=by
 unfold xH.meet;rw[decide_eq_false,bXU];rw[nD];have a:R.qz (xY (dv (fB s)) (dv (fB t)))<=V:=by rcases Tx (dv (fB s)) (dv (fB t))with h |h <;> rw[h] <;> grind
 have b:V<=R.qz (An (dv (fF s)) (dv (fF t))):=by rcases Ti (dv (fF s)) (dv (fF t))with h |h <;> rw[h] <;> grind
 grind
end M
namespace W
open Go AI M
namespace mL
def E:=mE [(40,zP.aH),(41,aZ.aH),(43,Ic.aH),(44,Ie.aH),(49,zN.aH),(42,nJ.aH)] 70 [15,67] [(8,[1,2,4,7,9]),(11,[1,4,7,9,11])] [8,11]
def aE:=bd f13
theorem aU:Nk E aE:=nk
def J8 a b c d e f g h i j k l m n o p q:=kV E f13 aE 8 [bP a,cQ 1 31 [bW b,dZ c,cI d,bW e,dZ f,cI g],cQ 2 31 [bW h,sc (slice none 0 0),cI i,bW j,sc (slice none 0 0),cI k],cQ 3 29 [bW l,dZ m,cI n],cQ 4 29 [bW o,dZ p,cI q]]
def aMM a b c d e f g h i j k l m:=kV E f13 aE 11 [bP a,cQ 1 31 [bW b,sc (slice none 0 0),cI c,bW d,sc (slice none 0 0),cI e],cQ 2 29 [bW f,dZ g,cI h],cQ 3 29 [bW i,dZ j,cI k],cQ 4 29 [bW l,sc (slice none 0 0),cI m]]
def aQE a b c d e f g h i j k l m n:=kV E f13 aE 11 [bP a,cQ 1 31 [bW b,sc (slice none 0 0),cI c,bW d,sc (slice none 0 0),cI e],cQ 2 29 [bW f,dZ g,cI h],cQ 3 29 [bW i,dZ j,cI k],cQ 4 29 [bW l,dZ m,cI n]]
theorem start a c d e f g b:aF E f13 aE [D.agg [sc (bool a),ints u64 c,sc (int i64 d),sc (bool e),ints u64 f,sc (int i64 g)],D.s (sc (int i64 b))]=letI K:=int i64 0;letI I:=bool false;letI H:=slice none 0 0;letI G:=dv (a,c,d);letI F:=dv (e,f,g);letI B:=bif aZ.fU F F then aZ.bQ F F else((0:Int),(0:Int));letI A:=bif aZ.fU G G then aZ.bQ G G else((0:Int),(0:Int));aO (dP (a,c,d,e,f,g)) (aC (if 1<=b/\b<=70000 then(0:Int)else(1:Int)) fun h=>aB (h !=0) (some [D.agg [sc I,sc H,sc K,sc I,sc H,sc K],D.s (sc (int i64 h))]) (aO (aJ (a,c,d)/\aJ (a,c,d)) (aC (isNeg A.fst) fun i=>aC (M6.dg A.fst.natAbs) fun j=>aC A.snd fun k=>aC (bif aZ.fU G G then(0:Int)else(5:Int)) fun l=>aO (aJ (e,f,g)/\aJ (e,f,g)) (aC (isNeg B.fst) fun m=>aC (M6.dg B.fst.natAbs) fun n=>aC B.snd fun o=>aC (bif aZ.fU F F then(0:Int)else(5:Int)) fun p=>letI C:=some [D.agg [sc I,sc H,sc K,sc I,sc H,sc K],D.s (sc (int i64 (if p>l then p else l)))];aB (l !=0) C (aB (p !=0) C (mL.J8 b a c d e f g false 0 false 0 i j k m n o)))))):=eJ aU
theorem sW a b c d e f g h i j k l m n o p q:J8 a b c d e f g h i j k l m n o p q=letI A:=gQ.oZ ((l,m,n),o,p,q);aO (aJ (l,m,n)/\aJ (o,p,q)) (aC A.fst fun r=>aC A.snd.fst fun s=>aC A.snd.snd fun t=>letI B:=mL.aQE a h i j k l m n o p q r s t;aO (aJ (b,c,d)) (aC (bZ (dv (b,c,d)) ((0:Int),(0:Int))) fun u=>aB (decide (u<=0)) (aO (aJ (e,f,g)) (aC (bZ (dv (e,f,g)) ((0:Int),(0:Int))) fun v=>aB (decide (0<=v)) (mL.aMM a h i j k l m n o p q false 0) B)) B)):=cJ aU
theorem Ve a b c d e f g h i j k l m:aMM a b c d e f g h i j k l m=letI B:=M.shD false (dv (l,[],m)) a;letI A:=gE.oZ ((f,g,h),i,j,k);aO (aJ (f,g,h)/\aJ (i,j,k)) (aC A.fst fun n=>aC A.snd.fst fun o=>aC A.snd.snd fun p=>letI C:=M.shD true (dv (n,o,p)) a;aO (aJ (l,[],m)/\aJ (n,o,p)/\(1<=a/\a<=70000)/\nT false (dv (l,[],m)) a=true/\nT true (dv (n,o,p)) a=true) (aC (isNeg B.fst) fun q=>aC (M6.dg B.fst.natAbs) fun r=>aC B.snd fun s=>aC (isNeg C.fst) fun t=>aC (M6.dg C.fst.natAbs) fun u=>aC C.snd fun v=>some [D.agg [sc (bool q),ints u64 r,sc (int i64 s),sc (bool t),ints u64 u,sc (int i64 v)],D.s (sc (int i64 0))])):=cJ aU
theorem aKO a b c d e f g h i j k l m n:aQE a b c d e f g h i j k l m n=letI B:=M.shD false (dv (l,m,n)) a;letI A:=gE.oZ ((f,g,h),i,j,k);aO (aJ (f,g,h)/\aJ (i,j,k)) (aC A.fst fun o=>aC A.snd.fst fun p=>aC A.snd.snd fun q=>letI C:=M.shD true (dv (o,p,q)) a;aO (aJ (l,m,n)/\aJ (o,p,q)/\(1<=a/\a<=70000)/\nT false (dv (l,m,n)) a=true/\nT true (dv (o,p,q)) a=true) (aC (isNeg B.fst) fun r=>aC (M6.dg B.fst.natAbs) fun s=>aC B.snd fun t=>aC (isNeg C.fst) fun u=>aC (M6.dg C.fst.natAbs) fun v=>aC C.snd fun w=>some [D.agg [sc (bool r),ints u64 s,sc (int i64 t),sc (bool u),ints u64 v,sc (int i64 w)],D.s (sc (int i64 0))])):=cJ aU
def yH(a b:Int×Int):Int×Int:=bif decide (bZ a (0,0)<=0)&&decide (0<=bZ b (0,0))then(0,0)else An (aZ.bQ a a) (aZ.bQ b b)
def yI(a b:Int×Int):Int×Int:=xY (aZ.bQ a a) (aZ.bQ b b)
def sp(s:qN)(p:Int):Prop×List D:=(dP s/\(1<=p/\p<=70000)/\(aZ.fU (dv (fB s)) (dv (fB s))=true/\aZ.fU (dv (fF s)) (dv (fF s))=true)/\nT false (yH (dv (fB s)) (dv (fF s))) p=true/\nT true (yI (dv (fB s)) (dv (fF s))) p=true,[vU (shD false (yH (dv (fB s)) (dv (fF s))) p) (shD true (yI (dv (fB s)) (dv (fF s))) p),.s (.sc (.int .i64 0))])
theorem uP{p q:Int×Int}(h:aZ.fU p q=true):iS (aZ.bQ p q):=by
 unfold aZ.fU at h;rw[bMC]at h;exact eZ h.2 (of_decide_eq_true h.1)
theorem spec:fI E f13 aE qK (pN .i64) sp:=by
 rintro s p ⟨h1,hp,⟨m1,m2⟩,i1,i2⟩;have hL:aJ (s.1,s.2.1,s.2.2.1):=h1.1;have hH:aJ (s.2.2.2.1,s.2.2.2.2.1,s.2.2.2.2.2):=h1.2.1;refine(start s.1 s.2.1 s.2.2.1 s.2.2.2.1 s.2.2.2.2.1 s.2.2.2.2.2 p).trans ?_;unfold sp yH yI at *;dsimp only at *;unfold fB fF at *;generalize ha:dv (s.1,s.2.1,s.2.2.1)=a at *;generalize hb:dv (s.2.2.2.1,s.2.2.2.2.1,s.2.2.2.2.2)=b at *;rw[gP h1,aK,if_pos hp,fD rfl,gP ⟨hL,hL⟩];simp only[aK,ha,hb,m1,m2,cond_true];rw[gP ⟨hH,hH⟩,fD rfl,fD rfl];have d1:=cK (uP m1);have d2:=cK (uP m2);have e1:=cT (aZ.bQ a a);have e2:=cT (aZ.bQ b b);have v1:=gQ.Hq ((isNeg (aZ.bQ a a).1,M6.dg (aZ.bQ a a).1.natAbs,(aZ.bQ a a).2),(isNeg (aZ.bQ b b).1,M6.dg (aZ.bQ b b).1.natAbs,(aZ.bQ b b).2));have v2:=gE.Hq ((isNeg (aZ.bQ a a).1,M6.dg (aZ.bQ a a).1.natAbs,(aZ.bQ a a).2),(isNeg (aZ.bQ b b).1,M6.dg (aZ.bQ b b).1.natAbs,(aZ.bQ b b).2));have k1:=gQ.vE (a:=((isNeg (aZ.bQ a a).1,M6.dg (aZ.bQ a a).1.natAbs,(aZ.bQ a a).2),(isNeg (aZ.bQ b b).1,M6.dg (aZ.bQ b b).1.natAbs,(aZ.bQ b b).2))) ⟨d1,d2⟩;have k2:=gE.vE (a:=((isNeg (aZ.bQ a a).1,M6.dg (aZ.bQ a a).1.natAbs,(aZ.bQ a a).2),(isNeg (aZ.bQ b b).1,M6.dg (aZ.bQ b b).1.natAbs,(aZ.bQ b b).2))) ⟨d1,d2⟩;dsimp only at v1 v2;rw[e1,e2]at v1 v2;have fin:∀x:dR,aJ x->nT false (dv x) p=true->aQE p false 0 false 0 (isNeg (aZ.bQ a a).1) (M6.dg (aZ.bQ a a).1.natAbs) (aZ.bQ a a).2 (isNeg (aZ.bQ b b).1) (M6.dg (aZ.bQ b b).1.natAbs) (aZ.bQ b b).2 x.1 x.2.1 x.2.2=some [vU (shD false (dv x) p) (shD true (xY (aZ.bQ a a) (aZ.bQ b b)) p),.s (.sc (.int .i64 0))]:=by
  intro x hx ix;rw[aKO,gP ⟨d1,d2⟩];simp only[aK];rw[gP ⟨hx,k2,hp,ix,by rw[v2];exact i2⟩,v2];rfl
 have zz:dv (false,[],0)=(0,0):=rfl;have dz:aJ (false,[],0):=by
  have:=cK aCL;rw[show((0,0):Int×Int).1.natAbs=0 from rfl,M6.bJ]at this;exact this
 have bBO:nT false (0,0) p=true->aMM p false 0 false 0 (isNeg (aZ.bQ a a).1) (M6.dg (aZ.bQ a a).1.natAbs) (aZ.bQ a a).2 (isNeg (aZ.bQ b b).1) (M6.dg (aZ.bQ b b).1.natAbs) (aZ.bQ b b).2 false 0=some [vU (shD false (0,0) p) (shD true (xY (aZ.bQ a a) (aZ.bQ b b)) p),.s (.sc (.int .i64 0))]:=by
  intro ix;rw[Ve,gP ⟨d1,d2⟩];simp only[aK];rw[gP ⟨dz,k2,hp,by rw[zz];exact ix,by rw[v2];exact i2⟩,v2,zz];rfl
 rw[sW,gP ⟨d1,d2⟩];simp only[aK,ha,hb];rw[gP hL]
 by_cases c1:bZ a (0,0)<=0
 ·rw[aN c1,gP hH];rw[decide_eq_true c1,bOX]at i1 ⊢
  by_cases c2:0<=bZ b (0,0)
  ·rw[aN c2];rw[decide_eq_true c2,cond_true]at i1 ⊢;exact bBO i1
  ·rw[aI c2];rw[decide_eq_false c2,cond_false]at i1 ⊢;rw[<-v1]at i1 ⊢;exact fin _ k1 i1
 ·rw[aI c1];rw[decide_eq_false c1,bRF,cond_false]at i1 ⊢;rw[<-v1]at i1 ⊢;exact fin _ k1 i1
def aH:dG:=orc2 qK (pN .i64) sp
theorem ok:OK 13 aH:=(eF E aE (aA zP.ok (aA aZ.ok (aA Ic.ok (aA Ie.ok (aA zN.ok (aA nJ.ok aD)))))) func13).lA rfl spec
end mL
end W
namespace M
open Go AI W
theorem qU(a b:Int×Int):R.qz (aZ.bQ a b)=R.qz a*R.qz b:=by
 unfold aZ.bQ;rw[mB,bWR,R.mD];unfold R.qz;grind
theorem aRT(x:Rat):0<=x*x:=by
 by_cases h:0<=x
 ·exact R.aG h h
 ·have:=R.aG (show 0<=-x by grind) (show 0<=-x by grind);grind
theorem aMX{a b:Int×Int}{V:Rat}(h1:R.qz a<=V)(h2:V<=R.qz b):R.qz (mL.yH a b)<=V*V/\V*V<=R.qz (mL.yI a b):=by
 constructor
 ·unfold mL.yH
  by_cases c:bZ a (0,0)<=0/\0<=bZ b (0,0)
  ·rw[decide_eq_true c.1,decide_eq_true c.2,Bool.and_true,cond_true,aRY];exact aRT V
  ·have e:(decide (bZ a (0,0)<=0)&&decide (0<=bZ b (0,0)))=false:=by
    by_cases d:bZ a (0,0)<=0
    ·rw[decide_eq_true d,decide_eq_false (fun h=>c ⟨d,h⟩)];rfl
    ·rw[decide_eq_false d];rfl
   rw[e,cond_false];obtain⟨l1,l2⟩:=Mi (aZ.bQ a a) (aZ.bQ b b);rw[qU]at l1 l2
   by_cases d:bZ a (0,0)<=0
   ·have d2:bZ b (0,0)<0:=by
     refine Int.not_le.1 fun h=>c ⟨d,h⟩
    rw[vB,aRY]at d2;have:=R.aG (show 0<=R.qz b-V by grind) (show 0<=-R.qz b-V by grind);grind
   ·have d1:0<bZ a (0,0):=by omega
    rw[nD,aRY]at d1;have:=R.aG (show 0<=V-R.qz a by grind) (show 0<=V+R.qz a by grind);grind
 ·unfold mL.yI;have g:R.qz (aZ.bQ a a)<=R.qz (xY (aZ.bQ a a) (aZ.bQ b b))/\R.qz (aZ.bQ b b)<=R.qz (xY (aZ.bQ a a) (aZ.bQ b b)):=by
   unfold xY
   by_cases d:0<bZ (aZ.bQ b b) (aZ.bQ a a)
   ·rw[decide_eq_true d,cond_true];rw[nD]at d;exact⟨bRD d,bSK⟩
   ·rw[decide_eq_false d,cond_false];rw[nD]at d;exact⟨bSK,by grind⟩
  rw[qU,qU]at g
  by_cases d:0<=V
  ·have:=R.aG (show 0<=R.qz b-V by grind) (show 0<=R.qz b+V by grind);grind
  ·have:=R.aG (show 0<=V-R.qz a by grind) (show 0<=-R.qz a-V by grind);grind
end M
namespace W
open Go AI M
namespace aPS
def E:=mE [(40,rE.aH),(26,bA.aH),(42,nJ.aH)] 54 [17,51] [] []
def aE:=bd f14
theorem aU:Nk E aE:=nk
theorem start a b d e f g h i j k l m c:aF E f14 aE [D.agg [sc (bool a),ints u64 b,sc (int i64 d),sc (bool e),ints u64 f,sc (int i64 g)],D.agg [sc (bool h),ints u64 i,sc (int i64 j),sc (bool k),ints u64 l,sc (int i64 m)],D.s (sc (int i64 c))]=letI Q:=dv (h,i,j);letI P:=dv (a,b,d);letI O:=dv (k,l,m);letI N:=dv (e,f,g);letI K:=bool false;letI I:=int i64 0;letI H:=slice none 0 0;letI B:=bif bA.gJ N O then bA.jL N O else((0:Int),(0:Int));letI A:=bif bA.gJ P Q then bA.jL P Q else((0:Int),(0:Int));aO (dP (a,b,d,e,f,g)/\dP (h,i,j,k,l,m)) (aC (if 1<=c/\c<=70000 then(0:Int)else(1:Int)) fun n=>aB (n !=0) (some [D.agg [sc K,sc H,sc I,sc K,sc H,sc I],D.s (sc (int i64 n))]) (aO (aJ (a,b,d)/\aJ (h,i,j)) (aC (isNeg A.fst) fun o=>aC (M6.dg A.fst.natAbs) fun p=>aC A.snd fun q=>letI F:=M.shD false (dv (o,p,q)) c;aC (bif bA.gJ P Q then(0:Int)else(5:Int)) fun r=>aO (aJ (e,f,g)/\aJ (k,l,m)) (aC (isNeg B.fst) fun s=>aC (M6.dg B.fst.natAbs) fun t=>aC B.snd fun u=>letI G:=M.shD true (dv (s,t,u)) c;aC (bif bA.gJ N O then(0:Int)else(5:Int)) fun v=>letI C:=some [D.agg [sc K,sc H,sc I,sc K,sc H,sc I],D.s (sc (int i64 (if v>r then v else r)))];aB (r !=0) C (aB (v !=0) C (aO (aJ (o,p,q)/\aJ (s,t,u)/\(1<=c/\c<=70000)/\nT false (dv (o,p,q)) c=true/\nT true (dv (s,t,u)) c=true) (aC (isNeg F.fst) fun w=>aC (M6.dg F.fst.natAbs) fun x=>aC F.snd fun y=>aC (isNeg G.fst) fun z=>aC (M6.dg G.fst.natAbs) fun aa=>aC G.snd fun ab=>some [D.agg [sc (bool w),ints u64 x,sc (int i64 y),sc (bool z),ints u64 aa,sc (int i64 ab)],D.s (sc I)]))))))):=eJ aU
def sp(s t:qN)(p:Int):Prop×List D:=(dP s/\dP t/\(1<=p/\p<=70000)/\(bA.gJ (dv (fB s)) (dv (fB t))=true/\bA.gJ (dv (fF s)) (dv (fF t))=true)/\nT false (bA.jL (dv (fB s)) (dv (fB t))) p=true/\nT true (bA.jL (dv (fF s)) (dv (fF t))) p=true,[vU (shD false (bA.jL (dv (fB s)) (dv (fB t))) p) (shD true (bA.jL (dv (fF s)) (dv (fF t))) p),.s (.sc (.int .i64 0))])
theorem spec:sR E f14 aE qK qK (pN .i64) sp:=by
 rintro s t p ⟨h1,h2,hp,⟨a1,a2⟩,i1,i2⟩;have bLQ:bA.gJ (dv (s.1,s.2.1,s.2.2.1)) (dv (t.1,t.2.1,t.2.2.1))=true:=a1;have aVQ:bA.gJ (dv (s.2.2.2.1,s.2.2.2.2.1,s.2.2.2.2.2)) (dv (t.2.2.2.1,t.2.2.2.2.1,t.2.2.2.2.2))=true:=a2;refine(start s.1 s.2.1 s.2.2.1 s.2.2.2.1 s.2.2.2.2.1 s.2.2.2.2.2 t.1 t.2.1 t.2.2.1 t.2.2.2.1 t.2.2.2.2.1 t.2.2.2.2.2 p).trans ?_;rw[gP ⟨h1,h2⟩,aK,if_pos hp,fD rfl,gP ⟨h1.1,h2.1⟩];simp only[aK,bLQ,aVQ,cond_true];rw[gP ⟨h1.2.1,h2.2.1⟩,fD rfl,fD rfl];have d1:=cK (Ai h1.1.qJ h2.1.qJ a1);have d2:=cK (Ai h1.2.1.qJ h2.2.1.qJ a2);have e1:=cT (bA.jL (dv (fB s)) (dv (fB t)));have e2:=cT (bA.jL (dv (fF s)) (dv (fF t)));unfold fB at d1 e1;unfold fF at d2 e2;rw[gP ⟨d1,d2,hp,by rw[e1];exact i1,by rw[e2];exact i2⟩,e1,e2];rfl
def aH:dG:=orc3 qK qK (pN .i64) sp
theorem ok:OK 14 aH:=(eF E aE (aA rE.ok (aA bA.ok (aA nJ.ok aD))) func14).Al rfl spec
end aPS
end W
namespace M
open Go AI W
structure Ry(x:Int×Int)(n:Nat)(E:Int)(B:Rat):Prop where
 qJ:iS x
 bl:bl x.1.natAbs<=n
 e:E<=x.2
 b:R.ab (R.qz x)<=B
theorem aIC{up:Bool}{x:Int×Int}{n E:Int}(h:E<=x.2)(h0:E<=0):E<=(shD up x n).2:=by
 unfold shD bR.lO;split
 ·by_cases z:x.1=0
  ·rw[z,cV];exact h0
  ·exact Int.le_trans h (kY z)
 ·dsimp only;rename_i hk;generalize iK.mU up x.1 ((bl x.1.natAbs:Int)-n).toNat=c
  by_cases z:c=0
  ·rw[z,cV];exact h0
  ·have:=kY (e:=x.2+((bl x.1.natAbs:Int)-n)) z;omega
end M
namespace W
open Go AI M
namespace iP
def E:=mE [(103,Bi.aH)] 25 [] [(3,[1,4,5,12,13,14])] []
def aE:=bd f102
theorem aU:Nk E aE:=nk
def L3 a b c d e (f:Nat) (g:Nat->Bool) (h:Nat->List Int) (j:Nat->Int) k l:=nO E f102 aE 3 [vA (sc (Value.func (Fn.func 103) { toList:=[] } { toList:=[] })),cQ 1 29 [bW a,sc (slice none 0 0),cI b],cQ 2 29 [bW c,dZ d,cI e],(A.v (V.one (L.rows 3 f fun i=>[sc (bool (g i)),ints u64 (h i),sc (int i64 (j i))])),none),bP k,bP l]
theorem start(a:dR)(b:dR)(c:dR)(d:dR):aF E f102 aE [D.rows 3 4 fun i=>[sc (bool (t4 a b c d i).fst),ints u64 (t4 a b c d i).snd.fst,sc (int i64 (t4 a b c d i).snd.snd)],D.s (sc (Value.func (Fn.func (103:FuncId)) #[] #[]))]=letI A:=t4 a b c d (bZQ 0);iP.L3 false 0 A.fst A.snd.fst A.snd.snd 3 (fun i=>(t4 a b c d (bZQ 1+i)).fst) (fun i=>(t4 a b c d (bZQ 1+i)).snd.fst) (fun i=>(t4 a b c d (bZQ 1+i)).snd.snd) 3 0:=eJ aU
theorem pQ a b c d e f g h j k l:L3 a b c d e f g h j k l=letI A:=(g l.toNat,h l.toNat,j l.toNat);aB (decide (l<k)) (if 0<=l/\l<(f:Int)then aO (aJ A/\aJ (c,d,e)) (aB (decide (bZ (dv A) (dv (c,d,e))<0)) (iP.L3 a b (g l.toNat) (h l.toNat) (j l.toNat) f (fun i=>g i) (fun i=>h i) (fun i=>j i) k (i64.wrap (l+1))) (iP.L3 a b c d e f (fun i=>g i) (fun i=>h i) (fun i=>j i) k (i64.wrap (l+1))))else none) (some [D.agg [sc (bool c),ints u64 d,sc (int i64 e)]]):=lJ aU
def eB(f:Nat->dR):Nat->dR
 |0=>f 0
 |k+1=>bif decide (bZ (dv (f (k+1))) (dv (eB f k))<0)then f (k+1)else eB f k
def oZ(a:dR×dR×dR×dR):dR:=eB (t4 a.1 a.2.1 a.2.2.1 a.2.2.2) 3
def sp(a:dR×dR×dR×dR)(u:Unit):Prop×List D:=(aJ a.1/\aJ a.2.1/\aJ a.2.2.1/\aJ a.2.2.2,[.agg [.sc (.bool (oZ a).1),.ints .u64 (oZ a).2.1,.sc (.int .i64 (oZ a).2.2)]])
theorem kJ{f:Nat->dR}{n:Nat}(hf:∀i,i<n->aJ (f i)):∀k,k<n->aJ (eB f k)
 |0,h=>hf 0 h
 |k+1,h=>by
  unfold eB;cases decide (bZ (dv (f (k+1))) (dv (eB f k))<0)
  ·exact kJ hf k (by omega)
  ·exact hf (k+1) h
theorem L(b0:Bool)(x1:Int)(n:Nat)(f:Nat->dR)(hn:n<1000)(hf:∀i,i<n+1->aJ (f i)):∀d k:Nat,k+d=n->L3 b0 x1 (eB f k).1 (eB f k).2.1 (eB f k).2.2 n (fun i=>(f (1+i)).1) (fun i=>(f (1+i)).2.1) (fun i=>(f (1+i)).2.2) (n:Int) (k:Int)=some [.agg [.sc (.bool (eB f n).1),.ints .u64 (eB f n).2.1,.sc (.int .i64 (eB f n).2.2)]]
 |0,k,h=>by
  obtain rfl:k=n:=by omega
  rw[pQ,aI]
 |d+1,k,h=>by
  have e:i64.wrap ((k:Int)+1)=((k+1:Nat):Int):=by rw[wrap_i64];omega
  have r:=L b0 x1 n f hn hf d (k+1) (by omega);have g1:aJ (f (1+k)):=hf _ (by omega);have g2:aJ (eB f k):=kJ hf k (by omega);have c1:f (k+1)=f (1+k):=by rw[bRX]
  rw[pQ,aN,aT,bPS,gP ⟨g1,g2⟩,e]
  by_cases hc:bZ (dv (f (k+1))) (dv (eB f k))<0
  ·have hb:eB f (k+1)=f (1+k):=by
    rw[<-c1];show(bif decide (bZ (dv (f (k+1))) (dv (eB f k))<0)then f (k+1)else eB f k)=_;rw[decide_eq_true hc];rfl
   rw[c1]at hc;rw[aN hc];rw[hb]at r;exact r
  ·have hb:eB f (k+1)=eB f k:=by
    show(bif decide (bZ (dv (f (k+1))) (dv (eB f k))<0)then f (k+1)else eB f k)=_;rw[decide_eq_false hc];rfl
   rw[c1]at hc;rw[aI hc];rw[hb]at r;exact r
theorem all{a:dR×dR×dR×dR}(h:aJ a.1/\aJ a.2.1/\aJ a.2.2.1/\aJ a.2.2.2):∀i,i<4->aJ (t4 a.1 a.2.1 a.2.2.1 a.2.2.2 i):=fun i hi=>by
  obtain rfl |rfl |rfl |rfl:i=0\/i=1\/i=2\/i=3:=by omega
  ·exact h.1
  ·exact h.2.1
  ·exact h.2.2.1
  ·exact h.2.2.2
theorem vE{a:dR×dR×dR×dR}(h:aJ a.1/\aJ a.2.1/\aJ a.2.2.1/\aJ a.2.2.2):aJ (oZ a):=kJ (n:=4) (all h) 3 (by decide)
theorem spec:fI E f102 aE (aLF (.pair sB (.pair (sI .u64) (sN .i64))) (false,[],0)) (pFn 103) sp:=fun a u h =>
 (start a.1 a.2.1 a.2.2.1 a.2.2.2).trans (L false 0 3 (t4 a.1 a.2.1 a.2.2.1 a.2.2.2) (by decide) (all h) 3 0 (by decide))
def aH:dG:=orc2 (aLF (.pair sB (.pair (sI .u64) (sN .i64))) (false,[],0)) (pFn 103) sp
theorem ok:OK 102 aH:=(eF E aE (aA Bi.ok aD) func102).lA rfl spec
end iP
namespace Nz
def E:=mE [(102,iP.aH)] 5 [] [] []
def aE:=bd f43
theorem aU:Nk E aE:=nk
theorem start(a:dR)(b:dR)(c:dR)(d:dR):aF E f43 aE [D.rows 3 4 fun i=>[sc (bool (t4 a b c d i).fst),ints u64 (t4 a b c d i).snd.fst,sc (int i64 (t4 a b c d i).snd.snd)]]=letI G:=t4 a b c d 3;letI F:=t4 a b c d 2;letI K:=(F.fst,F.snd.fst,F.snd.snd);letI C:=t4 a b c d 1;letI I:=(C.fst,C.snd.fst,C.snd.snd);letI B:=t4 a b c d 0;letI H:=(B.fst,B.snd.fst,B.snd.snd);letI A:=iP.oZ (H,I,K,G.fst,G.snd.fst,G.snd.snd);aO (aJ H/\aJ I/\aJ K/\aJ (G.fst,G.snd.fst,G.snd.snd)) (some [D.agg [sc (bool A.fst),ints u64 A.snd.fst,sc (int i64 A.snd.snd)]]):=eJ aU
def sp(a:dR×dR×dR×dR):Prop×List D:=(aJ a.1/\aJ a.2.1/\aJ a.2.2.1/\aJ a.2.2.2,[.agg [.sc (.bool (iP.oZ a).1),.ints .u64 (iP.oZ a).2.1,.sc (.int .i64 (iP.oZ a).2.2)]])
theorem spec:gO E f43 aE (aLF (.pair sB (.pair (sI .u64) (sN .i64))) (false,[],0)) sp:=fun a h =>
 (start a.1 a.2.1 a.2.2.1 a.2.2.2).trans (gP h)
def aH:dG:=orc1 (aLF (.pair sB (.pair (sI .u64) (sN .i64))) (false,[],0)) sp
theorem ok:OK 43 aH:=(eF E aE (aA iP.ok aD) func43).nN rfl spec
end Nz
namespace iQ
def E:=mE [(104,Bj.aH)] 25 [] [(3,[1,4,5,12,13,14])] []
def aE:=bd f102
theorem aU:Nk E aE:=nk
def L3 a b c d e (f:Nat) (g:Nat->Bool) (h:Nat->List Int) (j:Nat->Int) k l:=nO E f102 aE 3 [vA (sc (Value.func (Fn.func 104) { toList:=[] } { toList:=[] })),cQ 1 29 [bW a,sc (slice none 0 0),cI b],cQ 2 29 [bW c,dZ d,cI e],(A.v (V.one (L.rows 3 f fun i=>[sc (bool (g i)),ints u64 (h i),sc (int i64 (j i))])),none),bP k,bP l]
theorem start(a:dR)(b:dR)(c:dR)(d:dR):aF E f102 aE [D.rows 3 4 fun i=>[sc (bool (t4 a b c d i).fst),ints u64 (t4 a b c d i).snd.fst,sc (int i64 (t4 a b c d i).snd.snd)],D.s (sc (Value.func (Fn.func (104:FuncId)) #[] #[]))]=letI A:=t4 a b c d (bZQ 0);iQ.L3 false 0 A.fst A.snd.fst A.snd.snd 3 (fun i=>(t4 a b c d (bZQ 1+i)).fst) (fun i=>(t4 a b c d (bZQ 1+i)).snd.fst) (fun i=>(t4 a b c d (bZQ 1+i)).snd.snd) 3 0:=eJ aU
theorem pQ a b c d e f g h j k l:L3 a b c d e f g h j k l=letI A:=(g l.toNat,h l.toNat,j l.toNat);aB (decide (l<k)) (if 0<=l/\l<(f:Int)then aO (aJ A/\aJ (c,d,e)) (aB (decide (0<bZ (dv A) (dv (c,d,e)))) (iQ.L3 a b (g l.toNat) (h l.toNat) (j l.toNat) f (fun i=>g i) (fun i=>h i) (fun i=>j i) k (i64.wrap (l+1))) (iQ.L3 a b c d e f (fun i=>g i) (fun i=>h i) (fun i=>j i) k (i64.wrap (l+1))))else none) (some [D.agg [sc (bool c),ints u64 d,sc (int i64 e)]]):=lJ aU
def eB(f:Nat->dR):Nat->dR
 |0=>f 0
 |k+1=>bif decide (0<bZ (dv (f (k+1))) (dv (eB f k)))then f (k+1)else eB f k
def oZ(a:dR×dR×dR×dR):dR:=eB (t4 a.1 a.2.1 a.2.2.1 a.2.2.2) 3
def sp(a:dR×dR×dR×dR)(u:Unit):Prop×List D:=(aJ a.1/\aJ a.2.1/\aJ a.2.2.1/\aJ a.2.2.2,[.agg [.sc (.bool (oZ a).1),.ints .u64 (oZ a).2.1,.sc (.int .i64 (oZ a).2.2)]])
theorem kJ{f:Nat->dR}{n:Nat}(hf:∀i,i<n->aJ (f i)):∀k,k<n->aJ (eB f k)
 |0,h=>hf 0 h
 |k+1,h=>by
  unfold eB;cases decide (0<bZ (dv (f (k+1))) (dv (eB f k)))
  ·exact kJ hf k (by omega)
  ·exact hf (k+1) h
theorem L(b0:Bool)(x1:Int)(n:Nat)(f:Nat->dR)(hn:n<1000)(hf:∀i,i<n+1->aJ (f i)):∀d k:Nat,k+d=n->L3 b0 x1 (eB f k).1 (eB f k).2.1 (eB f k).2.2 n (fun i=>(f (1+i)).1) (fun i=>(f (1+i)).2.1) (fun i=>(f (1+i)).2.2) (n:Int) (k:Int)=some [.agg [.sc (.bool (eB f n).1),.ints .u64 (eB f n).2.1,.sc (.int .i64 (eB f n).2.2)]]
 |0,k,h=>by
  obtain rfl:k=n:=by omega
  rw[pQ,aI]
 |d+1,k,h=>by
  have e:i64.wrap ((k:Int)+1)=((k+1:Nat):Int):=by rw[wrap_i64];omega
  have r:=L b0 x1 n f hn hf d (k+1) (by omega);have g1:aJ (f (1+k)):=hf _ (by omega);have g2:aJ (eB f k):=kJ hf k (by omega);have c1:f (k+1)=f (1+k):=by rw[bRX]
  rw[pQ,aN,aT,bPS,gP ⟨g1,g2⟩,e]
  by_cases hc:0<bZ (dv (f (k+1))) (dv (eB f k))
  ·have hb:eB f (k+1)=f (1+k):=by
    rw[<-c1];show(bif decide (0<bZ (dv (f (k+1))) (dv (eB f k)))then f (k+1)else eB f k)=_;rw[decide_eq_true hc];rfl
   rw[c1]at hc;rw[aN hc];rw[hb]at r;exact r
  ·have hb:eB f (k+1)=eB f k:=by
    show(bif decide (0<bZ (dv (f (k+1))) (dv (eB f k)))then f (k+1)else eB f k)=_;rw[decide_eq_false hc];rfl
   rw[c1]at hc;rw[aI hc];rw[hb]at r;exact r
theorem all{a:dR×dR×dR×dR}(h:aJ a.1/\aJ a.2.1/\aJ a.2.2.1/\aJ a.2.2.2):∀i,i<4->aJ (t4 a.1 a.2.1 a.2.2.1 a.2.2.2 i):=fun i hi=>by
  obtain rfl |rfl |rfl |rfl:i=0\/i=1\/i=2\/i=3:=by omega
  ·exact h.1
  ·exact h.2.1
  ·exact h.2.2.1
  ·exact h.2.2.2
theorem vE{a:dR×dR×dR×dR}(h:aJ a.1/\aJ a.2.1/\aJ a.2.2.1/\aJ a.2.2.2):aJ (oZ a):=kJ (n:=4) (all h) 3 (by decide)
theorem spec:fI E f102 aE (aLF (.pair sB (.pair (sI .u64) (sN .i64))) (false,[],0)) (pFn 104) sp:=fun a u h =>
 (start a.1 a.2.1 a.2.2.1 a.2.2.2).trans (L false 0 3 (t4 a.1 a.2.1 a.2.2.1 a.2.2.2) (by decide) (all h) 3 0 (by decide))
def aH:dG:=orc2 (aLF (.pair sB (.pair (sI .u64) (sN .i64))) (false,[],0)) (pFn 104) sp
theorem ok:OK 102 aH:=(eF E aE (aA Bj.ok aD) func102).lA rfl spec
end iQ
namespace Oa
def E:=mE [(102,iQ.aH)] 5 [] [] []
def aE:=bd f44
theorem aU:Nk E aE:=nk
theorem start(a:dR)(b:dR)(c:dR)(d:dR):aF E f44 aE [D.rows 3 4 fun i=>[sc (bool (t4 a b c d i).fst),ints u64 (t4 a b c d i).snd.fst,sc (int i64 (t4 a b c d i).snd.snd)]]=letI G:=t4 a b c d 3;letI F:=t4 a b c d 2;letI K:=(F.fst,F.snd.fst,F.snd.snd);letI C:=t4 a b c d 1;letI I:=(C.fst,C.snd.fst,C.snd.snd);letI B:=t4 a b c d 0;letI H:=(B.fst,B.snd.fst,B.snd.snd);letI A:=iQ.oZ (H,I,K,G.fst,G.snd.fst,G.snd.snd);aO (aJ H/\aJ I/\aJ K/\aJ (G.fst,G.snd.fst,G.snd.snd)) (some [D.agg [sc (bool A.fst),ints u64 A.snd.fst,sc (int i64 A.snd.snd)]]):=eJ aU
def sp(a:dR×dR×dR×dR):Prop×List D:=(aJ a.1/\aJ a.2.1/\aJ a.2.2.1/\aJ a.2.2.2,[.agg [.sc (.bool (iQ.oZ a).1),.ints .u64 (iQ.oZ a).2.1,.sc (.int .i64 (iQ.oZ a).2.2)]])
theorem spec:gO E f44 aE (aLF (.pair sB (.pair (sI .u64) (sN .i64))) (false,[],0)) sp:=fun a h =>
 (start a.1 a.2.1 a.2.2.1 a.2.2.2).trans (gP h)
def aH:dG:=orc1 (aLF (.pair sB (.pair (sI .u64) (sN .i64))) (false,[],0)) sp
theorem ok:OK 44 aH:=(eF E aE (aA iQ.ok aD) func44).nN rfl spec
end Oa
namespace SMul
def E:Env:={ ({ base with C:=callsOf [(40,rE.aH),(41,aZ.aH),(43,Nz.aH),(44,Oa.aH),(42,nJ.aH)],roll:=tlook [(6,3),(9,3)] })with nt:=69,own:=[20,48,66],keep:=fun k=>(tlook [(9,[2,4,6,9,11,29,30,31,39,40,41]),(6,[2,4,6,9,29,30,31])] k).getD [],cut:=tlook [(17,[2,6,1000009])] }
def aE:=bd f10
theorem start a b d e f g h i j k l m c:aF E f10 aE [D.agg [sc (bool a),ints u64 b,sc (int i64 d),sc (bool e),ints u64 f,sc (int i64 g)],D.agg [sc (bool h),ints u64 i,sc (int i64 j),sc (bool k),ints u64 l,sc (int i64 m)],D.s (sc (int i64 c))]=aO (dP (a,b,d,e,f,g)/\dP (h,i,j,k,l,m)) (aC (if 1<=c/\c<=70000 then(0:Int)else(1:Int)) fun n=>aB (n !=0) (some [D.agg [sc (bool false),sc (slice none 0 0),sc (int i64 0),sc (bool false),sc (slice none 0 0),sc (int i64 0)],D.s (sc (int i64 n))]) (aO (aJ (a,b,d)/\aJ (h,i,j)) (aC (isNeg (bif aZ.fU (dv (a,b,d)) (dv (h,i,j))then aZ.bQ (dv (a,b,d)) (dv (h,i,j))else((0:Int),(0:Int))).fst) fun o=>aC (M6.dg (bif aZ.fU (dv (a,b,d)) (dv (h,i,j))then aZ.bQ (dv (a,b,d)) (dv (h,i,j))else((0:Int),(0:Int))).fst.natAbs) fun p=>aC (bif aZ.fU (dv (a,b,d)) (dv (h,i,j))then aZ.bQ (dv (a,b,d)) (dv (h,i,j))else((0:Int),(0:Int))).snd fun q=>aC (bif aZ.fU (dv (a,b,d)) (dv (h,i,j))then(0:Int)else(5:Int)) fun r=>aB (r !=0) (some [D.agg [sc (bool false),sc (slice none 0 0),sc (int i64 0),sc (bool false),sc (slice none 0 0),sc (int i64 0)],D.s (sc (int i64 r))]) (aO (aJ (a,b,d)/\aJ (k,l,m)) (aC (isNeg (bif aZ.fU (dv (a,b,d)) (dv (k,l,m))then aZ.bQ (dv (a,b,d)) (dv (k,l,m))else((0:Int),(0:Int))).fst) fun s=>aC (M6.dg (bif aZ.fU (dv (a,b,d)) (dv (k,l,m))then aZ.bQ (dv (a,b,d)) (dv (k,l,m))else((0:Int),(0:Int))).fst.natAbs) fun t=>aC (bif aZ.fU (dv (a,b,d)) (dv (k,l,m))then aZ.bQ (dv (a,b,d)) (dv (k,l,m))else((0:Int),(0:Int))).snd fun u=>aC (bif aZ.fU (dv (a,b,d)) (dv (k,l,m))then(0:Int)else(5:Int)) fun v=>aB (v !=0) (some [D.agg [sc (bool false),sc (slice none 0 0),sc (int i64 0),sc (bool false),sc (slice none 0 0),sc (int i64 0)],D.s (sc (int i64 v))]) (aO (aJ (e,f,g)/\aJ (h,i,j)) (aC (isNeg (bif aZ.fU (dv (e,f,g)) (dv (h,i,j))then aZ.bQ (dv (e,f,g)) (dv (h,i,j))else((0:Int),(0:Int))).fst) fun w=>aC (M6.dg (bif aZ.fU (dv (e,f,g)) (dv (h,i,j))then aZ.bQ (dv (e,f,g)) (dv (h,i,j))else((0:Int),(0:Int))).fst.natAbs) fun x=>aC (bif aZ.fU (dv (e,f,g)) (dv (h,i,j))then aZ.bQ (dv (e,f,g)) (dv (h,i,j))else((0:Int),(0:Int))).snd fun y=>aC (bif aZ.fU (dv (e,f,g)) (dv (h,i,j))then(0:Int)else(5:Int)) fun z=>aB (z !=0) (some [D.agg [sc (bool false),sc (slice none 0 0),sc (int i64 0),sc (bool false),sc (slice none 0 0),sc (int i64 0)],D.s (sc (int i64 z))]) (aO (aJ (e,f,g)/\aJ (k,l,m)) (aC (isNeg (bif aZ.fU (dv (e,f,g)) (dv (k,l,m))then aZ.bQ (dv (e,f,g)) (dv (k,l,m))else((0:Int),(0:Int))).fst) fun aa=>aC (M6.dg (bif aZ.fU (dv (e,f,g)) (dv (k,l,m))then aZ.bQ (dv (e,f,g)) (dv (k,l,m))else((0:Int),(0:Int))).fst.natAbs) fun ab=>aC (bif aZ.fU (dv (e,f,g)) (dv (k,l,m))then aZ.bQ (dv (e,f,g)) (dv (k,l,m))else((0:Int),(0:Int))).snd fun ac=>aC (bif aZ.fU (dv (e,f,g)) (dv (k,l,m))then(0:Int)else(5:Int)) fun ad=>aB (ad !=0) (some [D.agg [sc (bool false),sc (slice none 0 0),sc (int i64 0),sc (bool false),sc (slice none 0 0),sc (int i64 0)],D.s (sc (int i64 ad))]) (aO (aJ (o,p,q)/\aJ (s,t,u)/\aJ (w,x,y)/\aJ (aa,ab,ac)) (aC (iP.oZ ((o,p,q),(s,t,u),(w,x,y),aa,ab,ac)).fst fun ae=>aC (iP.oZ ((o,p,q),(s,t,u),(w,x,y),aa,ab,ac)).snd.fst fun af=>aC (iP.oZ ((o,p,q),(s,t,u),(w,x,y),aa,ab,ac)).snd.snd fun ag=>aO (aJ (o,p,q)/\aJ (s,t,u)/\aJ (w,x,y)/\aJ (aa,ab,ac)) (aC (iQ.oZ ((o,p,q),(s,t,u),(w,x,y),aa,ab,ac)).fst fun ah=>aC (iQ.oZ ((o,p,q),(s,t,u),(w,x,y),aa,ab,ac)).snd.fst fun ai=>aC (iQ.oZ ((o,p,q),(s,t,u),(w,x,y),aa,ab,ac)).snd.snd fun aj=>aO (aJ (ae,af,ag)/\aJ (ah,ai,aj)/\(1<=c/\c<=70000)/\nT false (dv (ae,af,ag)) c=true/\nT true (dv (ah,ai,aj)) c=true) (aC (isNeg (M.shD false (dv (ae,af,ag)) c).fst) fun ak=>aC (M6.dg (M.shD false (dv (ae,af,ag)) c).fst.natAbs) fun al=>aC (M.shD false (dv (ae,af,ag)) c).snd fun am=>aC (isNeg (M.shD true (dv (ah,ai,aj)) c).fst) fun an=>aC (M6.dg (M.shD true (dv (ah,ai,aj)) c).fst.natAbs) fun ao=>aC (M.shD true (dv (ah,ai,aj)) c).snd fun ap=>some [D.agg [sc (bool ak),ints u64 al,sc (int i64 am),sc (bool an),ints u64 ao,sc (int i64 ap)],D.s (sc (int i64 0))]))))))))))))):=by kernel_rfl
def wM(a b:(Int×Int)×(Int×Int)):Int×Int:=An (An (An (aZ.bQ a.1 b.1) (aZ.bQ a.1 b.2)) (aZ.bQ a.2 b.1)) (aZ.bQ a.2 b.2)
def wO(a b:(Int×Int)×(Int×Int)):Int×Int:=xY (xY (xY (aZ.bQ a.1 b.1) (aZ.bQ a.1 b.2)) (aZ.bQ a.2 b.1)) (aZ.bQ a.2 b.2)
def aIR(a b:(Int×Int)×(Int×Int)):Prop:=aZ.fU a.1 b.1=true/\aZ.fU a.1 b.2=true/\aZ.fU a.2 b.1=true/\aZ.fU a.2 b.2=true
abbrev eS(s:qN):(Int×Int)×(Int×Int):=(dv (fB s),dv (fF s))
def sp(s t:qN)(p:Int):Prop×List D:=((dP s/\dP t)/\(1<=p/\p<=70000)/\aIR (eS s) (eS t)/\nT false (wM (eS s) (eS t)) p=true/\nT true (wO (eS s) (eS t)) p=true,[vU (shD false (wM (eS s) (eS t)) p) (shD true (wO (eS s) (eS t)) p),.s (.sc (.int .i64 0))])
theorem uP{p q:Int×Int}(h:aZ.fU p q=true):iS (aZ.bQ p q):=by
 unfold aZ.fU at h;rw[bMC]at h;exact eZ h.2 (of_decide_eq_true h.1)
theorem bGV(a:dR×dR×dR×dR):dv (iP.oZ a)=An (An (An (dv a.1) (dv a.2.1)) (dv a.2.2.1)) (dv a.2.2.2):=by
 have st:∀x y:dR,dv (bif decide (bZ (dv x) (dv y)<0)then x else y)=An (dv y) (dv x):=by
  intro x y;unfold An;cases decide (bZ (dv x) (dv y)<0) <;> rfl
 show dv (bif decide (bZ (dv a.2.2.2) (dv (bif decide (bZ (dv a.2.2.1) (dv (bif decide (bZ (dv a.2.1) (dv a.1)<0)then a.2.1 else a.1))<0)then a.2.2.1 else(bif decide (bZ (dv a.2.1) (dv a.1)<0)then a.2.1 else a.1)))<0)then a.2.2.2 else(bif decide (bZ (dv a.2.2.1) (dv (bif decide (bZ (dv a.2.1) (dv a.1)<0)then a.2.1 else a.1))<0)then a.2.2.1 else(bif decide (bZ (dv a.2.1) (dv a.1)<0)then a.2.1 else a.1)))=_;rw[st,st,st]
theorem bKW(a:dR×dR×dR×dR):dv (iQ.oZ a)=xY (xY (xY (dv a.1) (dv a.2.1)) (dv a.2.2.1)) (dv a.2.2.2):=by
 have st:∀x y:dR,dv (bif decide (0<bZ (dv x) (dv y))then x else y)=xY (dv y) (dv x):=by
  intro x y;unfold xY;cases decide (0<bZ (dv x) (dv y)) <;> rfl
 show dv (bif decide (0<bZ (dv a.2.2.2) (dv (bif decide (0<bZ (dv a.2.2.1) (dv (bif decide (0<bZ (dv a.2.1) (dv a.1))then a.2.1 else a.1)))then a.2.2.1 else(bif decide (0<bZ (dv a.2.1) (dv a.1))then a.2.1 else a.1))))then a.2.2.2 else(bif decide (0<bZ (dv a.2.2.1) (dv (bif decide (0<bZ (dv a.2.1) (dv a.1))then a.2.1 else a.1)))then a.2.2.1 else(bif decide (0<bZ (dv a.2.1) (dv a.1))then a.2.1 else a.1)))=_;rw[st,st,st]
theorem spec:sR E f10 aE qK qK (pN .i64) sp:=by
 rintro s t p ⟨⟨h1,h2⟩,hp,⟨m1,m2,m3,m4⟩,i1,i2⟩;have hL:aJ (s.1,s.2.1,s.2.2.1):=h1.1;have hH:aJ (s.2.2.2.1,s.2.2.2.2.1,s.2.2.2.2.2):=h1.2.1;have kL:aJ (t.1,t.2.1,t.2.2.1):=h2.1;have kH:aJ (t.2.2.2.1,t.2.2.2.2.1,t.2.2.2.2.2):=h2.2.1;refine(start s.1 s.2.1 s.2.2.1 s.2.2.2.1 s.2.2.2.2.1 s.2.2.2.2.2 t.1 t.2.1 t.2.2.1 t.2.2.2.1 t.2.2.2.2.1 t.2.2.2.2.2 p).trans ?_;unfold sp wM wO eS at *;dsimp only at *;unfold fB fF at *;generalize ha:dv (s.1,s.2.1,s.2.2.1)=a at *;generalize hb:dv (s.2.2.2.1,s.2.2.2.2.1,s.2.2.2.2.2)=b at *;generalize hc:dv (t.1,t.2.1,t.2.2.1)=c at *;generalize hd:dv (t.2.2.2.1,t.2.2.2.2.1,t.2.2.2.2.2)=d at *;have d1:=cK (uP m1);have d2:=cK (uP m2);have d3:=cK (uP m3);have d4:=cK (uP m4);have e1:=cT (aZ.bQ a c);have e2:=cT (aZ.bQ a d);have e3:=cT (aZ.bQ b c);have e4:=cT (aZ.bQ b d);rw[gP ⟨h1,h2⟩,aK,if_pos hp,fD rfl,gP ⟨hL,kL⟩];simp only[aK,m1,m2,m3,m4,cond_true];rw[fD rfl,gP ⟨hL,kH⟩,fD rfl,gP ⟨hH,kL⟩,fD rfl,gP ⟨hH,kH⟩,fD rfl];obtain⟨Q,hQ⟩:∃Q:dR×dR×dR×dR,Q=((isNeg (aZ.bQ a c).1,M6.dg (aZ.bQ a c).1.natAbs,(aZ.bQ a c).2),(isNeg (aZ.bQ a d).1,M6.dg (aZ.bQ a d).1.natAbs,(aZ.bQ a d).2),(isNeg (aZ.bQ b c).1,M6.dg (aZ.bQ b c).1.natAbs,(aZ.bQ b c).2),(isNeg (aZ.bQ b d).1,M6.dg (aZ.bQ b d).1.natAbs,(aZ.bQ b d).2)):=⟨_,rfl⟩;have dQ:aJ Q.1/\aJ Q.2.1/\aJ Q.2.2.1/\aJ Q.2.2.2:=by rw[hQ];exact⟨d1,d2,d3,d4⟩
 have v1:=bGV Q;have v2:=bKW Q;have k1:=iP.vE dQ;have k2:=iQ.vE dQ;rw[show dv Q.1=aZ.bQ a c by rw[hQ];exact e1,show dv Q.2.1=aZ.bQ a d by rw[hQ];exact e2,show dv Q.2.2.1=aZ.bQ b c by rw[hQ];exact e3,show dv Q.2.2.2=aZ.bQ b d by rw[hQ];exact e4]at v1 v2;rw[gP ⟨d1,d2,d3,d4⟩,gP ⟨d1,d2,d3,d4⟩,<-hQ];rw[<-v1]at i1 ⊢;rw[<-v2]at i2 ⊢;exact gP ⟨k1,k2,hp,i1,i2⟩
def aH:dG:=orc3 qK qK (pN .i64) sp
theorem fnok:qI prog E 10 f10 aE:=Zj pD mixed (kG _ rfl (aA rE.ok (aA aZ.ok (aA Nz.ok (aA Oa.ok (aA nJ.ok aD))))) (mF)) func10 rfl rfl rfl
theorem ok:kZ prog base.glob 10 aH:=fnok.Al rfl spec
end SMul
end W
namespace M
open Go AI W
theorem Me{a b x:Rat}{y:Rat}(h1:a<=x)(h2:x<=b):(a*y<=x*y\/b*y<=x*y)/\(x*y<=a*y\/x*y<=b*y):=by
 by_cases h:0<=y
 ·have m1:=R.aG (show 0<=x-a by grind) h;have m2:=R.aG (show 0<=b-x by grind) h;exact⟨.inl (by grind),.inr (by grind)⟩
 ·have m1:=R.aG (show 0<=x-a by grind) (show 0<=-y by grind);have m2:=R.aG (show 0<=b-x by grind) (show 0<=-y by grind);exact⟨.inr (by grind),.inl (by grind)⟩
theorem aNO{a b:(Int×Int)×(Int×Int)}{x y:Rat}(h1:R.qz a.1<=x)(h2:x<=R.qz a.2)(h3:R.qz b.1<=y)(h4:y<=R.qz b.2):R.qz (SMul.wM a b)<=x*y/\x*y<=R.qz (SMul.wO a b):=by
 obtain⟨l1,l2⟩:=Mi (aZ.bQ a.1 b.1) (aZ.bQ a.1 b.2);obtain⟨l3,l4⟩:=Mi (An (aZ.bQ a.1 b.1) (aZ.bQ a.1 b.2)) (aZ.bQ a.2 b.1);obtain⟨l5,l6⟩:=Mi (An (An (aZ.bQ a.1 b.1) (aZ.bQ a.1 b.2)) (aZ.bQ a.2 b.1)) (aZ.bQ a.2 b.2);obtain⟨g1,g2⟩:=Ty (aZ.bQ a.1 b.1) (aZ.bQ a.1 b.2);obtain⟨g3,g4⟩:=Ty (xY (aZ.bQ a.1 b.1) (aZ.bQ a.1 b.2)) (aZ.bQ a.2 b.1);obtain⟨g5,g6⟩:=Ty (xY (xY (aZ.bQ a.1 b.1) (aZ.bQ a.1 b.2)) (aZ.bQ a.2 b.1)) (aZ.bQ a.2 b.2);change R.qz (SMul.wM a b)<=_ at l5 l6;change _<=R.qz (SMul.wO a b)at g5 g6;rw[qU]at l1 l2 l4 l6 g1 g2 g4 g6;generalize R.qz (SMul.wM a b)=L at *;generalize R.qz (SMul.wO a b)=H at *;generalize R.qz (An (An (aZ.bQ a.1 b.1) (aZ.bQ a.1 b.2)) (aZ.bQ a.2 b.1))=L2 at *;generalize R.qz (An (aZ.bQ a.1 b.1) (aZ.bQ a.1 b.2))=L1 at *;generalize R.qz (xY (xY (aZ.bQ a.1 b.1) (aZ.bQ a.1 b.2)) (aZ.bQ a.2 b.1))=G2 at *;generalize R.qz (xY (aZ.bQ a.1 b.1) (aZ.bQ a.1 b.2))=G1 at *;generalize R.qz a.1=a1 at *;generalize R.qz a.2=a2 at *;generalize R.qz b.1=b1 at *;generalize R.qz b.2=b2 at *;obtain⟨m1,m2⟩:=Me (y:=y) h1 h2;obtain⟨p1,p2⟩:=Me (y:=a1) h3 h4;obtain⟨q1,q2⟩:=Me (y:=a2) h3 h4;constructor
 ·rcases m1 with m |m
  ·rcases p1 with p |p <;> grind
  ·rcases q1 with q |q <;> grind
 ·rcases m2 with m |m
  ·rcases p2 with p |p <;> grind
  ·rcases q2 with q |q <;> grind
end M
namespace W
open Go AI M
namespace Og
def E:=mE [(63,iJ.aH)] 31 [] [] []
def aE:=bd f204
theorem aU:Nk E aE:=nk
theorem start a b c:aF E f204 aE [D.s (ints u64 a),D.s (ints u64 b),D.s (sc (int i64 c))]=letI C:=i64.wrap ((0:Int)-c);letI B:=bif fM (wv (false,b)) C then aL (wv (false,b)) C else((0:Int),(0:Int));letI A:=bif fM (wv (false,a)) C then aL (wv (false,a)) C else((0:Int),(0:Int));aO (jY (false,a)/\(-9223372036854775808:Int)<=i64.wrap ((0:Int)-c)/\i64.wrap ((0:Int)-c)<9223372036854775808) (aC (isNeg A.fst) fun d=>aC (M6.dg A.fst.natAbs) fun e=>aC A.snd fun f=>aO (jY (false,b)/\(-9223372036854775808:Int)<=i64.wrap ((0:Int)-c)/\i64.wrap ((0:Int)-c)<9223372036854775808) (aC (isNeg B.fst) fun g=>aC (M6.dg B.fst.natAbs) fun h=>aC B.snd fun i=>some [D.agg [sc (bool d),ints u64 e,sc (int i64 f),sc (bool g),ints u64 h,sc (int i64 i)],D.s (sc (int i64 0))])):=eJ aU
def sp(a b:List Int)(w:Int):Prop×List D:=(jY (false,a)/\jY (false,b)/\(-100000<=w/\w<=100000)/\fM (wv (false,a)) (-w)=true/\fM (wv (false,b)) (-w)=true,[vU (aL (wv (false,a)) (-w)) (aL (wv (false,b)) (-w)),.s (.sc (.int .i64 0))])
theorem spec:sR E f204 aE (pI .u64) (pI .u64) (pN .i64) sp:=by
 rintro a b w ⟨ha,hb,hw,i1,i2⟩;have e:i64.wrap (0-w)=-w:=by rw[wrap_i64];omega
 refine(start a b w).trans ?_;rw[e,i1,i2,gP ⟨ha,by omega,by omega⟩];simp only[aK,cond_true];rw[gP ⟨hb,by omega,by omega⟩];rfl
def aH:dG:=orc3 (pI .u64) (pI .u64) (pN .i64) sp
theorem ok:OK 204 aH:=(eF E aE (aA iJ.ok aD) func204).Al rfl spec
end Og
namespace aGQ
def E:=mE [(124,rH.aH),(117,mM.aH),(204,Og.aH)] 26 [23] [] []
def aE:=bd f163
theorem aU:Nk E aE:=nk
theorem start a b c:aF E f163 aE [D.s (ints u64 a),D.s (sc (int i64 b)),D.s (sc (int i64 c))]=letI F:=int i64 0;letI C:=M6.val a+M6.val (M6.dg 1);letI A:=aL (wv (false,a)) (-c);aB (b !=0) (some [D.agg [sc (bool false),sc (slice none 0 0),sc F,sc (bool false),sc (slice none 0 0),sc F],D.s (sc (int i64 b))]) (aO ((0:Int)<=(1:Int)/\(1:Int)<(18446744073709551616:Int)) (aO (M6.cF a/\M6.cF (M6.dg 1)/\a.length<=8192/\(M6.dg 1).length<=8192) (aC (bif cC.kU C then M6.dg C else []) fun d=>letI B:=aL (wv (false,d)) (-c);aO (jY (false,a)/\jY (false,d)/\((-100000:Int)<=c/\c<=100000)/\fM (wv (false,a)) (-c)=true/\fM (wv (false,d)) (-c)=true) (aC (isNeg A.fst) fun e=>aC (M6.dg A.fst.natAbs) fun f=>aC A.snd fun g=>aC (isNeg B.fst) fun h=>aC (M6.dg B.fst.natAbs) fun i=>aC B.snd fun j=>some [D.agg [sc (bool e),ints u64 f,sc (int i64 g),sc (bool h),ints u64 i,sc (int i64 j)],D.s (sc F)])))):=eJ aU
def sp(a:List Int)(e p:Int):Prop×List D:=(e=0/\M6.cF a/\bl (M6.val a)<=100000/\1<=p/\p<=70000,[vU (aL (M6.val a:Int) (-p)) (aL ((M6.val a:Int)+1) (-p)),.s (.sc (.int .i64 0))])
theorem spec:sR E f163 aE (pI .u64) (pN .i64) (pN .i64) sp:=by
 rintro a e p ⟨rfl,ha,hb,p0,p1⟩;have hv:M6.val a<2^100000:=dU.1 hb;have aSX:M6.val a+1<2^100001:=by rw[bQV];omega
 have ok:=dC.aLH aSX (by omega);have la:a.length<=8192:=by
  have:=dC.jW hv (by omega);rwa [M6.Fe ha]at this
 have l1:(M6.dg 1).length<=8192:=dC.jW (k:=1) (by decide) (by omega);have e1:wv (false,a)=(M6.val a:Int):=rfl;have e2:wv (false,M6.dg (M6.val a+1))=(M6.val a:Int)+1:=by
  show((M6.val (M6.dg (M6.val a+1)):Nat):Int)=_;rw[M6.bI];omega
 have b1:bl (M6.val a+1)<=100001:=dU.2 aSX;have i1:fM (M6.val a:Int) (-p)=true:=fJ (by omega) (by rw[bRO];omega);have i2:fM ((M6.val a:Int)+1) (-p)=true:=fJ (by omega) (by rw[show((M6.val a:Int)+1).natAbs=M6.val a+1 by omega];omega);refine(start a 0 p).trans ?_;rw[fD rfl,gP ⟨by decide,by decide⟩,gP ⟨ha,M6.aW _,la,l1⟩,M6.bI,ok,cond_true,aK];refine(gP ⟨⟨ha,fun h=>(by cases h),la⟩,⟨M6.aW _,fun h=>(by cases h),dC.jW aSX (by omega)⟩,by omega,by rw[e1];exact i1,by rw[e2];exact i2⟩).trans ?_;rw[e1,e2];rfl
def aH:dG:=orc3 (pI .u64) (pN .i64) (pN .i64) sp
theorem ok:OK 163 aH:=(eF E aE (aA rH.ok (aA mM.ok (aA Og.ok aD))) func163).Al rfl spec
end aGQ
namespace qH
def E:=mE [(162,uG.aH),(163,aGQ.aH)] 17 [14] [] []
def aE:=bd f110
theorem aU:Nk E aE:=nk
theorem start a:aF E f110 aE [D.s (sc (int i64 a))]=letI C:=M6.dg (R.pF a.toNat);letI A:=(↑(M6.val C):Int);letI F:=aL A (-a);letI B:=aL (A+(1:Int)) (-a);aO (1<=a/\a<=70000) (aO ((0:Int)=(0:Int)/\M6.cF C/\bl (M6.val C)<=100000/\1<=a/\a<=70000) (aC (isNeg F.fst) fun b=>aC (M6.dg F.fst.natAbs) fun c=>aC F.snd fun d=>aC (isNeg B.fst) fun e=>aC (M6.dg B.fst.natAbs) fun f=>aC B.snd fun g=>some [D.agg [sc (bool b),ints u64 c,sc (int i64 d),sc (bool e),ints u64 f,sc (int i64 g)],D.s (sc (int i64 0))])):=eJ aU
def qV(p:Int):(Int×Int)×(Int×Int):=(aL (R.pF p.toNat:Int) (-p),aL ((R.pF p.toNat:Int)+1) (-p))
def sp(p:Int):Prop×List D:=(1<=p/\p<=70000,[vU (qV p).1 (qV p).2,.s (.sc (.int .i64 0))])
theorem aLG{p:Int}(h:1<=p/\p<=70000):bl (R.pF p.toNat)<=100000:=by
 obtain⟨q,rfl⟩:=bQY (show 0<=p by omega);rw[bPS];have h1:=(R.Gl (q:=q) (by omega)).1;obtain⟨_,p2⟩:=R.sA;have P:(0:Rat)<((2^q:Nat):Rat):=by exact_mod_cast bOV (n:=q) (show 0<2 by decide)
 have m:=R.aG (bRD P) (show 0<=4-R.pi by grind);have h2:(R.pF q:Rat)<=((2^(q+2):Nat):Rat):=by
  have:((2^(q+2):Nat):Rat)=((2^q:Nat):Rat)*4:=by rw[bQX];push_cast;norm_cast
  grind
 have h3:R.pF q<=2^(q+2):=by exact_mod_cast h2
 have h4:R.pF q<2^(q+3):=by
  have:2^(q+3)=2*2^(q+2):=by rw[bQV];omega
  have:=bOV (n:=q+2) (show 0<2 by decide);omega
 have:=dU.2 h4;omega
theorem spec:gO E f110 aE (pN .i64) sp:=by
 intro p h;refine(start p).trans ((gP h).trans ?_);have b:=aLG h;refine(gP ⟨rfl,M6.aW _,by rw[M6.bI];exact b,h.1,h.2⟩).trans ?_;rw[M6.bI];rfl
def aH:dG:=orc1 (pN .i64) sp
theorem ok:OK 110 aH:=(eF E aE (aA uG.ok (aA aGQ.ok aD)) func110).nN rfl spec
end qH
namespace fL
def E:=mE [(110,qH.aH),(36,Ib.aH),(10,SMul.aH),(94,sK.aH),(95,cU.aH)] 48 [] [] []
def aE:=bd f56
theorem aU:Nk E aE:=nk
theorem start a c d b:aF E f56 aE [D.agg [sc (bool a),ints u64 c,sc (int i64 d)],D.s (sc (int i64 b))]=letI P:=qH.qV b;letI F:=i64.wrap (b+8);letI A:=SMul.eS ((a,c,d).fst,(a,c,d).snd.fst,(a,c,d).snd.snd,(a,c,d).fst,(a,c,d).snd.fst,(a,c,d).snd.snd);aO (1<=b/\b<=70000) (aC (isNeg P.fst.fst) fun e=>aC (M6.dg P.fst.fst.natAbs) fun f=>aC P.fst.snd fun g=>aC (isNeg P.snd.fst) fun h=>aC (M6.dg P.snd.fst.natAbs) fun i=>aC P.snd.snd fun j=>letI Q:=(e,f,g,h,i,j);letI B:=SMul.eS Q;letI O:=M.shD true (SMul.wO A B) F;letI I:=M.shD false (SMul.wM A B) F;aO (aJ (a,c,d)) (aO ((dP (a,c,d,a,c,d)/\dP Q)/\(1<=i64.wrap (b+8)/\i64.wrap (b+8)<=70000)/\SMul.aIR (dv (fB ((a,c,d).fst,(a,c,d).snd.fst,(a,c,d).snd.snd,(a,c,d).fst,(a,c,d).snd.fst,(a,c,d).snd.snd)),dv (fF ((a,c,d).fst,(a,c,d).snd.fst,(a,c,d).snd.snd,(a,c,d).fst,(a,c,d).snd.fst,(a,c,d).snd.snd))) (dv (fB Q),dv (fF Q))/\nT false (SMul.wM A B) F=true/\nT true (SMul.wO A B) F=true) (aC (isNeg I.fst) fun k=>aC (M6.dg I.fst.natAbs) fun l=>aC I.snd fun m=>aC (isNeg O.fst) fun n=>aC (M6.dg O.fst.natAbs) fun o=>aC O.snd fun p=>letI C:=(k,l,m,n,o,p);letI N:=eK.Lv (dv (fF C)) (b+2);letI K:=eK.Lu (dv (fB C)) (b+2);letI H:=bD.rD (dv (cU.zI C)) (b+2);letI G:=bD.qD (dv (cU.sU C)) (b+2);aO (sK.aBU C b) (aC (isNeg K.fst) fun q=>aC (M6.dg K.fst.natAbs) fun r=>aC K.snd fun s=>aC (isNeg N.fst) fun t=>aC (M6.dg N.fst.natAbs) fun u=>aC N.snd fun v=>aO (cU.aJZ C b) (aC (isNeg H.fst) fun w=>aC (M6.dg H.fst.natAbs) fun x=>aC H.snd fun y=>aC (isNeg G.fst) fun z=>aC (M6.dg G.fst.natAbs) fun aa=>aC G.snd fun ab=>some [D.agg [sc (bool q),ints u64 r,sc (int i64 s),sc (bool t),ints u64 u,sc (int i64 v)],D.agg [sc (bool w),ints u64 x,sc (int i64 y),sc (bool z),ints u64 aa,sc (int i64 ab)]]))))):=eJ aU
def zK(r:Int×Int)(q:Int):(Int×Int)×(Int×Int):=(shD false (SMul.wM (r,r) (qH.qV q)) (q+8),shD true (SMul.wO (r,r) (qH.qV q)) (q+8))
def aVP(r:Int×Int)(q:Int):qN:=mI (zK r q).1 (zK r q).2
def aJX(r:Int×Int)(q:Int):Prop:=dP (mI (qH.qV q).1 (qH.qV q).2)/\SMul.aIR (r,r) (qH.qV q)/\nT false (SMul.wM (r,r) (qH.qV q)) (q+8)=true/\nT true (SMul.wO (r,r) (qH.qV q)) (q+8)=true/\sK.aBU (aVP r q) q/\cU.aJZ (aVP r q) q
def sp(x:dR)(q:Int):Prop×List D:=(aJ x/\(1<=q/\q<=66500)/\aJX (dv x) q,[vU (gS (zK (dv x) q).1 (zK (dv x) q).2 (q+2)).1 (gS (zK (dv x) q).1 (zK (dv x) q).2 (q+2)).2,vU (gC (zK (dv x) q).1 (zK (dv x) q).2 (q+2)).1 (gC (zK (dv x) q).1 (zK (dv x) q).2 (q+2)).2])
theorem fold(a b:Int×Int):(isNeg a.1,M6.dg a.1.natAbs,a.2,isNeg b.1,M6.dg b.1.natAbs,b.2)=mI a b:=rfl
theorem spec:fI E f56 aE gZ (pN .i64) sp:=by
 rintro x q ⟨hx,hq,h1,h2,h3,h4,h5,h6⟩;obtain⟨a,b,c⟩:=x;have w:i64.wrap (q+8)=q+8:=wrap_i64;have eP:SMul.eS (mI (qH.qV q).1 (qH.qV q).2)=qH.qV q:=by
  show(dv (fB (mI _ _)),dv (fF (mI _ _)))=_;rw[nU,nV]
 have sx:dP (a,b,c,a,b,c):=⟨hx,hx,Kv _⟩;refine(start a b c q).trans ((gP ⟨hq.1,by omega⟩).trans ?_);rw[aK,aK,aK,aK,aK,aK,fold,w,eP];refine(gP hx).trans ((gP ⟨⟨sx,h1⟩,⟨by omega,by omega⟩,by rw[nU,nV];exact h2,h3,h4⟩).trans ?_);rw[aK,aK,aK,aK,aK,aK,fold];have e1:dv (fB (aVP (dv (a,b,c)) q))=(zK (dv (a,b,c)) q).1:=nU _ _;have e2:dv (fF (aVP (dv (a,b,c)) q))=(zK (dv (a,b,c)) q).2:=nV _ _;have f:mI (M.shD false (SMul.wM (SMul.eS (a,b,c,a,b,c)) (qH.qV q)) (q+8)) (M.shD true (SMul.wO (SMul.eS (a,b,c,a,b,c)) (qH.qV q)) (q+8))=aVP (dv (a,b,c)) q:=rfl;change aO (sK.aBU (mI (M.shD false (SMul.wM (SMul.eS (a,b,c,a,b,c)) (qH.qV q)) (q+8)) (M.shD true (SMul.wO (SMul.eS (a,b,c,a,b,c)) (qH.qV q)) (q+8))) q) _=_;rw[f,gP h5,aK,aK,aK,aK,aK,aK,gP h6,e1,e2];rfl
def aH:dG:=orc2 gZ (pN .i64) sp
theorem ok:OK 56 aH:=(eF E aE (aA qH.ok (aA Ib.ok (aA SMul.ok (aA sK.ok (aA cU.ok aD))))) func56).lA rfl spec
end fL
end W
namespace M
open Go AI W
structure aRF(r:Int×Int):Prop where
 qJ:iS r
 b:bl r.1.natAbs<=1100
 e:-1100<=r.2/\r.2<=0
 q:R.ab (R.qz r)<=1/4
 g:R.pz (-1075)<=R.ab (R.qz r)
theorem aIM{q:Int}(hq:1<=q/\q<=66500):(iS (qH.qV q).1/\iS (qH.qV q).2)/\(bl (qH.qV q).1.1.natAbs<=100001/\bl (qH.qV q).2.1.natAbs<=100001)/\(-70000<=(qH.qV q).1.2/\(qH.qV q).1.2<=200000)/\(-70000<=(qH.qV q).2.2/\(qH.qV q).2.2<=200000)/\R.qz (qH.qV q).1<=R.pi/\R.pi<=R.qz (qH.qV q).2/\R.qz (qH.qV q).2-R.qz (qH.qV q).1=R.pz (-q):=by
 have hb:=qH.aLG (p:=q) ⟨hq.1,by omega⟩;have aJF:bl ((R.pF q.toNat:Int)+1).natAbs<=100001:=by
  have h1:=dU.1 hb;refine dU.2 ?_;rw[show((R.pF q.toNat:Int)+1).natAbs=R.pF q.toNat+1 by omega,bQV];omega
 have vP:bl ((R.pF q.toNat:Int)).natAbs<=100001:=by rw[bRO];omega
 have i1:fM (R.pF q.toNat:Int) (-q)=true:=fJ (by omega) (by omega);have i2:fM ((R.pF q.toNat:Int)+1) (-q)=true:=fJ (by omega) (by omega);have ex:∀z:Int,bl z.natAbs<=100001->-70000<=(aL z (-q)).2/\(aL z (-q)).2<=200000:=by
  intro z hz
  by_cases h0:z=0
  ·rw[h0,cV];decide
  ·have h1:=kY (e:=-q) h0;have h2:=(jH (e:=-q) h0).2;have h3:=Fq (n:=z.natAbs) (by omega);have h4:tz z.natAbs<=100001:=by
    rcases Nat.lt_or_ge 100001 (tz z.natAbs)with h |h
    ·have:=dU.1 hz;have h5:2^100001<=2^tz z.natAbs:=fQ;omega
    ·exact h
   omega
 have fl:=R.Gl (q:=q.toNat) (by omega);have P:=R.Tc q;have e:R.pz q=((2^q.toNat:Nat):Rat):=by
  have:=R.oF q.toNat;rwa [show((q.toNat:Nat):Int)=q by omega]at this
 rw[<-e]at fl;have z0:=R.dS (-q);have m1:=R.aG (bRD z0) (show 0<=R.pz q*R.pi-(R.pF q.toNat:Rat) by grind);have m2:=R.aG (bRD z0) (show 0<=(R.pF q.toNat:Rat)+1-R.pz q*R.pi by grind);have k:R.pz (-q)*(R.pz q*R.pi)=R.pi:=by rw[<-bXG,bYQ (R.pz (-q)),P];grind
 have q1:R.qz (qH.qV q).1=(R.pF q.toNat:Rat)*R.pz (-q):=by
  show R.qz (aL _ _)=_;rw[mB,bWO]
 have q2:R.qz (qH.qV q).2=((R.pF q.toNat:Rat)+1)*R.pz (-q):=by
  show R.qz (aL _ _)=_;rw[mB,bXT,bWO,show((1:Int):Rat)=1 by norm_cast]
 rw[q1,q2];exact⟨⟨eZ i1 (by omega),eZ i2 (by omega)⟩,⟨bMS (oT _ _) vP,bMS (oT _ _) aJF⟩,ex _ vP,ex _ aJF,by grind,by grind,by grind⟩
theorem aCT{a b:Int×Int}{m n:Nat}(ha:bl a.1.natAbs<=m)(hb:bl b.1.natAbs<=n)(h:m+n<=524288)(e1:-1048576<=a.2+b.2)(e2:a.2+b.2<=500000):aZ.fU a b=true/\iS (aZ.bQ a b):=by
 have b0:=bMS (Cu a.1.natAbs b.1.natAbs) (Nat.add_le_add ha hb);rw[<-Int.natAbs_mul]at b0;have i:fM (a.1*b.1) (a.2+b.2)=true:=fJ (by omega) (by omega);refine⟨?_,eZ i (by omega)⟩;unfold aZ.fU fit;rw[i,decide_eq_true (by omega)];rfl
theorem aPQ{r:Int×Int}{p:Int}(h:aRF r)(hp:1<=p/\p<=66000):fL.aJX r (p+16)/\bCE (fL.zK r (p+16)).1 (fL.zK r (p+16)).2 (p-7) (p+18) (R.qz r*R.pi):=by
 obtain⟨Qa,hb,he,hq,hg⟩:=h;obtain⟨⟨u1,u2⟩,⟨b1,b2⟩,x1,x2,l1,l2,w⟩:=aIM (q:=p+16) (by omega);obtain⟨o1,n1⟩:=aCT hb b1 (by omega) (by omega) (by omega);obtain⟨o2,n2⟩:=aCT hb b2 (by omega) (by omega) (by omega);have sP:dP (mI (qH.qV (p+16)).1 (qH.qV (p+16)).2):=uL u1 u2 (jR.2 (by grind));have mo:SMul.aIR (r,r) (qH.qV (p+16)):=⟨o1,o2,o1,o2⟩;obtain⟨g1,g2⟩:=aNO (a:=(r,r)) (b:=qH.qV (p+16)) (x:=R.qz r) (y:=R.pi) bSK bSK l1 l2;have pL:iS (SMul.wM (r,r) (qH.qV (p+16)))/\(R.qz (SMul.wM (r,r) (qH.qV (p+16)))=R.qz r*R.qz (qH.qV (p+16)).1\/R.qz (SMul.wM (r,r) (qH.qV (p+16)))=R.qz r*R.qz (qH.qV (p+16)).2):=by
  unfold SMul.wM;rw[<-qU,<-qU];have ls:∀{s t:Int×Int} {A B:Rat},(iS s/\(R.qz s=A\/R.qz s=B))->(iS t/\(R.qz t=A\/R.qz t=B))->iS (An s t)/\(R.qz (An s t)=A\/R.qz (An s t)=B):=by
   intro s t A B hs ht;rcases Ti s t with h |h <;> rw[h] <;> assumption
  exact ls (ls (ls ⟨n1,.inl rfl⟩ ⟨n2,.inr rfl⟩) ⟨n1,.inl rfl⟩) ⟨n2,.inr rfl⟩
 have pH:iS (SMul.wO (r,r) (qH.qV (p+16)))/\(R.qz (SMul.wO (r,r) (qH.qV (p+16)))=R.qz r*R.qz (qH.qV (p+16)).1\/R.qz (SMul.wO (r,r) (qH.qV (p+16)))=R.qz r*R.qz (qH.qV (p+16)).2):=by
  unfold SMul.wO;rw[<-qU,<-qU];have ls:∀{s t:Int×Int} {A B:Rat},(iS s/\(R.qz s=A\/R.qz s=B))->(iS t/\(R.qz t=A\/R.qz t=B))->iS (xY s t)/\(R.qz (xY s t)=A\/R.qz (xY s t)=B):=by
   intro s t A B hs ht;rcases Tx s t with h |h <;> rw[h] <;> assumption
  exact ls (ls (ls ⟨n1,.inl rfl⟩ ⟨n2,.inr rfl⟩) ⟨n1,.inl rfl⟩) ⟨n2,.inr rfl⟩
 have z0:=R.dS (-(p+16));have zs:R.pz (-(p+16))<=1/131072:=by
  have:=aNG (p:=p-7) (by omega);rwa [show -(p-7)-23=-(p+16) by omega]at this
 obtain⟨bDC,bDB⟩:=R.sA;generalize hL:SMul.wM (r,r) (qH.qV (p+16))=L at *;generalize hH:SMul.wO (r,r) (qH.qV (p+16))=H at *;generalize aQZ:R.qz (qH.qV (p+16)).1=P1 at *;generalize hP2:R.qz (qH.qV (p+16)).2=P2 at *;generalize hz:R.pz (-(p+16))=z at *;have a0:=R.aQ (R.qz r);have bCB:∀(x y:Rat),0<=y->R.ab (x*y)=R.ab x*y:=fun x y hy=>by rw[R.fS,R.bN hy]
 have p1:0<=P1:=by grind
 have p2:0<=P2:=by grind
 have bFK:∀x:Rat,x=R.qz r*P1\/x=R.qz r*P2->R.ab x<=R.ab (R.qz r)*(16/5)/\R.ab x<=1:=by
  intro x hx;have m1:=R.aG a0 (show 0<=16/5-P1 by grind);have m2:=R.aG a0 (show 0<=16/5-P2 by grind);rcases hx with h |h
  ·rw[h,bCB _ _ p1];grind
  ·rw[h,bCB _ _ p2];grind
 obtain⟨bL,cL⟩:=bFK _ pL.2;obtain⟨bH,cH⟩:=bFK _ pH.2;have wd:R.qz H-R.qz L<=R.ab (R.qz r)*z:=by
  have t1:=R.Pv (R.qz r);have t2:=R.tN (R.qz r);have m1:=R.aG (show 0<=R.ab (R.qz r)-R.qz r by grind) (bRD z0);have m2:=R.aG (show 0<=R.ab (R.qz r)+R.qz r by grind) (bRD z0);have m3:=R.aG a0 (bRD z0);have e:R.qz r*P2=R.qz r*P1+R.qz r*z:=by
   rw[show P2=P1+z by grind];grind
  rcases pL.2 with h |h <;> rcases pH.2 with h' |h' <;> rw[h,h'] <;> grind
 have aVL:(1:Rat)<=R.pz 1100:=by rw[<-R.fC];exact R.dM (by decide)
 obtain⟨i1,i2,bx⟩:=Fa (s:=(L,H)) (V:=R.qz r*R.pi) (m:=0) (n:=p+16+8) pL.1 pH.1 bSK (by dsimp only;grind) (by dsimp only;grind) wd (by omega) (by dsimp only;grind) (by dsimp only;grind);have eA:fL.zK r (p+16)=(shD false L (p+16+8),shD true H (p+16+8)):=by
  unfold fL.zK;rw[hL,hH]
 have e7:R.pz (1-(p+16+8))*128=z:=by
  have:=R.fZ (-(p+16)) (n:=7) (c:=128) (by norm_cast);rw[<-hz,<-this,show 1-(p+16+8)=-(p+16)-((7:Nat):Int) by omega]
 have aPP:R.ab (R.qz r*R.pi)=R.ab (R.qz r)*R.pi:=bCB _ _ (by grind);have bFU:R.pz (-1074)=2*R.pz (-1075):=by
  have:=R.uN (-1074);rw[show(-1074:Int)-1=-1075 by rfl]at this;grind
 have tr:=aMR (l:=(fL.zK r (p+16)).1) (h:=(fL.zK r (p+16)).2) (p:=p-7) (n:=p+18) (r:=R.qz r*R.pi) (by omega) (by omega) (by rw[eA];exact bx.pl) (by rw[eA];exact bx.ph) (by rw[eA];have:=bx.lo;dsimp only at this ⊢;grind) (by rw[eA];have:=bx.hi;dsimp only at this ⊢;grind)
  (by
   rw[eA,aPP,show -(p-7)-23=-(p+16) by omega,hz];have w2:=bx.wd;dsimp only at w2 ⊢;have m1:=R.aG (bRD z0) a0;have m2:=R.aG (bRD z0) (show 0<=R.ab (R.qz r)*(16/5)-R.ab (R.qz L) by grind);have m3:=R.aG (bRD z0) (show 0<=R.ab (R.qz r)*(16/5)-R.ab (R.qz H) by grind);have m4:=R.aG (R.aG (bRD z0) a0) (show 0<=R.pi-3 by grind);have e8:R.pz (1-(p+16+8))*(R.ab (R.qz L)+R.ab (R.qz H))*128=z*(R.ab (R.qz L)+R.ab (R.qz H)):=by rw[<-e7];grind
   grind)
  (by
   rw[aPP,bFU];have m1:=R.aG a0 (show 0<=R.pi-3 by grind);grind)
  (by
   rw[aPP];have m1:=R.aG a0 (show 0<=314160/100000-R.pi by grind);grind)
 refine⟨⟨sP,mo,by rw[hL];exact i1,by rw[hH];exact i2,?_,?_⟩,tr⟩
 ·have:=tr.so;rw[show p+18-2=p+16 by omega]at this;exact this
 ·have:=tr.co;rw[show p+18-2=p+16 by omega]at this;exact this
end M
namespace W
open Go AI M
namespace jT
def E:=mE [(31,jM.aH),(21,iX.aH)] 41 [] [(2,[0,4,7,8,10,15,16])] []
def aE:=bd f57
theorem aU:Nk E aE:=nk
def L2 a b c d e f g h i j k l m n o p q r s t:=nO E f57 aE 2 [bP a,bP b,cQ 2 31 [bW c,dZ d,cI e,bW f,dZ g,cI h],cQ 3 31 [bW i,dZ j,cI k,bW l,dZ m,cI n],cQ 4 31 [bW o,sc (slice none 0 0),cI p,bW q,sc (slice none 0 0),cI r],bP s,bP t]
theorem start a b c d f g h i j k l m n o e:aF E f57 aE [D.s (sc (int i64 a)),D.s (sc (int i64 b)),D.agg [sc (bool c),ints u64 d,sc (int i64 f),sc (bool g),ints u64 h,sc (int i64 i)],D.agg [sc (bool j),ints u64 k,sc (int i64 l),sc (bool m),ints u64 n,sc (int i64 o)],D.s (sc (int i64 e))]=jT.L2 a e c d f g h i j k l m n o false 0 false 0 b 0:=eJ aU
theorem jZ a b c d e f g h i j k l m n o p q r s t:L2 a b c d e f g h i j k l m n o p q r s t=letI F:=(i,j,k,l,m,n);letI O:=dv (fF F);letI N:=dv (fB F);letI C:=(c,d,e,f,g,h);letI H:=dv (fF C);letI G:=dv (fB C);letI B:=iX.Oq b G H N O;letI K:=aL B.fst B.snd;letI A:=iX.Oo b G H N O;letI I:=aL A.fst A.snd;aB (decide (t<s)) (aO (dP C) (aC (isNeg (-H.fst)) fun u=>aC (M6.dg (-H.fst).natAbs) fun v=>aC H.snd fun w=>aC (isNeg (-G.fst)) fun x=>aC (M6.dg (-G.fst).natAbs) fun y=>aC G.snd fun z=>jT.L2 a b i j k l m n u v w x y z o p q r s (i64.wrap (t+1)))) (aB (a==4) (some [D.agg [sc (bool c),ints u64 d,sc (int i64 e),sc (bool f),ints u64 g,sc (int i64 h)]]) (aB (a==5) (some [D.agg [sc (bool i),ints u64 j,sc (int i64 k),sc (bool l),ints u64 m,sc (int i64 n)]]) (aO (dP C/\dP F/\(1<=b/\b<=70000)/\gL.wJ N O≠0/\(bl G.fst.natAbs<=262144/\bl H.fst.natAbs<=262144/\bl N.fst.natAbs<=262144/\bl O.fst.natAbs<=262144)/\fM A.fst A.snd=true/\fM B.fst B.snd=true) (aC (isNeg I.fst) fun aa=>aC (M6.dg I.fst.natAbs) fun ab=>aC I.snd fun ac=>aC (isNeg K.fst) fun ad=>aC (M6.dg K.fst.natAbs) fun ae=>aC K.snd fun af=>some [D.agg [sc (bool aa),ints u64 ab,sc (int i64 ac),sc (bool ad),ints u64 ae,sc (int i64 af)]])))):=lJ aU
def aKU (fn : Int) (n : Nat) (s c : (Int × Int) × (Int × Int)) (q : Int) : (Int × Int) × (Int × Int) :=
  bif fn == 4 then (VTurned.trn s c n).1 else bif fn == 5 then (VTurned.trn s c n).2 else
    (aL (iX.Oo q (VTurned.trn s c n).1.1 (VTurned.trn s c n).1.2 (VTurned.trn s c n).2.1 (VTurned.trn s c n).2.2).1 (iX.Oo q (VTurned.trn s c n).1.1 (VTurned.trn s c n).1.2 (VTurned.trn s c n).2.1 (VTurned.trn s c n).2.2).2,
     aL (iX.Oq q (VTurned.trn s c n).1.1 (VTurned.trn s c n).1.2 (VTurned.trn s c n).2.1 (VTurned.trn s c n).2.2).1 (iX.Oq q (VTurned.trn s c n).1.1 (VTurned.trn s c n).1.2 (VTurned.trn s c n).2.1 (VTurned.trn s c n).2.2).2)
def aIJ(q:Int)(s c:(Int×Int)×(Int×Int)):Prop:=gL.wJ c.1 c.2≠0/\(bl s.1.1.natAbs<=262144/\bl s.2.1.natAbs<=262144/\bl c.1.1.natAbs<=262144/\bl c.2.1.natAbs<=262144)/\fM (iX.Oo q s.1 s.2 c.1 c.2).1 (iX.Oo q s.1 s.2 c.1 c.2).2=true/\fM (iX.Oq q s.1 s.2 c.1 c.2).1 (iX.Oq q s.1 s.2 c.1 c.2).2=true
abbrev eS(s:qN):(Int×Int)×(Int×Int):=(dv (fB s),dv (fF s))
def sp(fn k:Int)(s c:qN)(q:Int):Prop×List D:=((dP s/\dP c)/\(0<=k/\k<=3)/\(1<=q/\q<=70000)/\(fn≠4->fn≠5->aIJ q (VTurned.trn (eS s) (eS c) k.toNat).1 (VTurned.trn (eS s) (eS c) k.toNat).2),[vU (aKU fn k.toNat (eS s) (eS c) q).1 (aKU fn k.toNat (eS s) (eS c) q).2])
theorem L(fn q:Int)(hq:1<=q/\q<=70000):∀(d k:Nat) (s c:qN),k+d<=1000->dP s->dP c->(fn≠4->fn≠5->aIJ q (VTurned.trn (eS s) (eS c) d).1 (VTurned.trn (eS s) (eS c) d).2) ->
  L2 fn q s.1 s.2.1 s.2.2.1 s.2.2.2.1 s.2.2.2.2.1 s.2.2.2.2.2 c.1 c.2.1 c.2.2.1 c.2.2.2.1 c.2.2.2.2.1 c.2.2.2.2.2 false 0 false 0 ((k+d:Nat):Int) (k:Int)=some [vU (aKU fn d (eS s) (eS c) q).1 (aKU fn d (eS s) (eS c) q).2]
 |0,k,s,c,h,h1,h2,hk=>by
  rw[jZ,aI];unfold aKU VTurned.trn;unfold VTurned.trn at hk;dsimp only at hk ⊢
  by_cases f4:fn=4
  ·rw[cN f4,f4];show _=some [vU (dv (fB s)) (dv (fF s))];rw[h1.vU]
  ·rw[bV f4,beq_eq_false_iff_ne.2 f4,cond_false]
   by_cases f5:fn=5
   ·rw[cN f5,f5];show _=some [vU (dv (fB c)) (dv (fF c))];rw[h2.vU]
   ·rw[bV f5,beq_eq_false_iff_ne.2 f5,cond_false];obtain⟨k0,k1,k2,k3⟩:=hk f4 f5;exact gP ⟨h1,h2,hq,k0,k1,k2,k3⟩
 |d+1,k,s,c,h,h1,h2,hk=>by
  have e:i64.wrap ((k:Int)+1)=((k+1:Nat):Int):=by rw[wrap_i64];omega
  rw[jZ,aN,gP h1];simp only[aK,e];have en:eS (mI (jM.uS (dv (fF s))) (jM.uS (dv (fB s))))=(jM.uS (dv (fF s)),jM.uS (dv (fB s))):=by
   show(dv (fB (mI _ _)),dv (fF (mI _ _)))=_;rw[nU,nV]
  have r:=L fn q hq d (k+1) c (mI (jM.uS (dv (fF s))) (jM.uS (dv (fB s)))) (by omega) h2 (VTurned.aNN h1) (by rw[en];exact hk);rw[en,show k+1+d=k+(d+1) by omega]at r;exact r
theorem spec(fn k:Int)(s c:qN)(q:Int)(h:(sp fn k s c q).1):aF E f57 aE [(pN .i64).put fn,(pN .i64).put k,qK.put s,qK.put c,(pN .i64).put q]=some (sp fn k s c q).2:=by
 obtain⟨⟨h1,h2⟩,⟨q0,q1⟩,hq,hk⟩:=h;refine(start fn k s.1 s.2.1 s.2.2.1 s.2.2.2.1 s.2.2.2.2.1 s.2.2.2.2.2 c.1 c.2.1 c.2.2.1 c.2.2.2.1 c.2.2.2.2.1 c.2.2.2.2.2 q).trans ?_;obtain⟨n,rfl⟩:=bQY q0;have:=L fn q hq n 0 s c (by omega) h1 h2 hk;rw[bLY]at this;exact this
def aH:dG:=orc5 (pN .i64) (pN .i64) qK qK (pN .i64) sp
theorem ok:OK 57 aH:=(eF E aE (aA jM.ok (aA iX.ok aD)) func57).aXV rfl spec
end jT
namespace aQK
def E:=mE [(148,lW.aH)] 22 [] [] []
def aE:=bd f178
theorem aU:Nk E aE:=nk
theorem start a d b c:aF E f178 aE [D.agg [sc (bool a),ints u64 d],D.s (sc (int i64 b)),D.s (sc (bool c))]=letI A:=wv (a,d)/(↑((2:Nat)^b.toNat):Int);aB c none (aO (jY (a,d)/\0<=b/\b<4611686018427387904) (some [D.agg [sc (bool (isNeg A)),ints u64 (M6.dg A.natAbs)]])):=eJ aU
def sp(x:Bool×List Int)(n:Int)(up:Bool):Prop×List D:=(jY x/\(0<=n/\n<4611686018427387904)/\up=false,[wD (wv x/((2^n.toNat:Nat):Int))])
theorem spec:sR E f178 aE vY (pN .i64) pB sp:=by
 rintro x n up ⟨h1,h2,rfl⟩;refine(start x.1 x.2 n false).trans ?_;rw[bF,gP ⟨h1,h2⟩];rfl
def aH:dG:=orc3 vY (pN .i64) pB sp
theorem ok:OK 178 aH:=(eF E aE (aA lW.ok aD) func178).Al rfl spec
end aQK
namespace nM
def E:=mE [(61,kA.aH),(68,kM.aH),(69,Bn.aH),(127,uE.aH),(178,aQK.aH),(63,iJ.aH)] 49 [46] [(5,[1,2,3,6]),(8,[1,2,3,6,8])] [5,8]
def aE:=bd f130
theorem aU:Nk E aE:=nk
def J5 a b c d e f g:=kV E f130 aE 5 [bP a,Lk b,cQ 2 29 [bW c,dZ d,cI e],cQ 3 29 [bW f,sc (slice none 0 0),cI g]]
def J8 a b c d e f g h:=kV E f130 aE 8 [bP a,Lk b,cQ 2 29 [bW c,dZ d,cI e],cQ 3 29 [bW f,sc (slice none 0 0),cI g],bP h]
theorem start a d e b c:aF E f130 aE [D.agg [sc (bool a),ints u64 d,sc (int i64 e)],D.s (sc (int i64 b)),D.s (sc (bool c))]=letI A:=aO (d.length<=1099511627776) (some [D.agg [sc (bool a),ints u64 d,sc (int i64 e)],D.s (sc (int i64 0))]);aO (aJ (a,d,e)) (aO True (aB ((d.length:Int)==(0:Int)) A (aB (decide (b<=e)) A (nM.J5 b c a d e false 0)))):=eJ aU
theorem Ip a b c d e f g:J5 a b c d e f g=letI A:=(↑(bl (M6.val d)):Int);aO (M6.cE d/\d.length<=1099511627776) (aB (decide (a<i64.wrap (e+i64.wrap (A+(1:Int))))) (nM.J8 a b c d e f g (i64.wrap (a-e))) (nM.J8 a b c d e f g (i64.wrap (A+(1:Int))))):=cJ aU
theorem sW a b c d e f g h:J8 a b c d e f g h=letI C:=wv (c,d)/(↑((2:Nat)^h.toNat):Int);letI A:=(isNeg C,M6.dg C.natAbs);letI B:=bif fM (wv A) a then aL (wv A) a else((0:Int),(0:Int));aO (jY (c,d)/\(0<=h/\h<4611686018427387904)/\b=false) (aO (jY A/\(-9223372036854775808:Int)<=a/\a<9223372036854775808) (some [D.agg [sc (bool (isNeg B.fst)),ints u64 (M6.dg B.fst.natAbs),sc (int i64 B.snd)],D.s (sc (int i64 (bif fM (wv A) a then(0:Int)else(5:Int))))])):=cJ aU
def wX(p:Int×Int)(b:Int):Int×Int:=if p.1=0\/b<=p.2 then p else aL (p.1/((2^(b-p.2).toNat:Nat):Int)) b
def qC(p:Int×Int)(b:Int):Bool:=decide (p.1=0\/b<=p.2)||fM (p.1/((2^(b-p.2).toNat:Nat):Int)) b
def sp(x:dR)(b:Int)(up:Bool):Prop×List D:=(aJ x/\(-4611686018427387904<=b/\b<4611686018427387904)/\up=false,dE (qC (dv x) b) (wX (dv x) b))
theorem spec:sR E f130 aE gZ (pN .i64) pB sp:=by
 rintro x k up ⟨h,hk,rfl⟩;refine(start x.1 x.2.1 x.2.2 k false).trans ?_;have hl:=h.len;have hd:=h.dD;have hr:=h.2.1;have hb:=h.Eb.bl;have hw:=h.Eb;have hn:=h.Iu;obtain⟨b,a,e⟩:=x
 try dsimp only at *
 unfold sp
 try dsimp only
 have hz:=M6.cS hn;have ha:=iW (b,a)
 try dsimp only at ha hz
 rw[gP h,gP trivial];have same:((dv (b,a,e)).1=0\/k<=(dv (b,a,e)).2)->dE (qC (dv (b,a,e)) k) (wX (dv (b,a,e)) k)=[D.agg [.sc (.bool b),.ints .u64 a,.sc (.int .i64 e)],.s (.sc (.int .i64 0))]:=by
  intro hc;unfold qC wX;rw[decide_eq_true hc,bRG,if_pos hc];show [M.dD (dv (b,a,e)),_]=_;rw[hd];rfl
 by_cases h0:a.length=0
 ·rw[cN,gP,same (.inl (by have:=hz.1 h0;show wv (b,a)=0;omega))]
 ·rw[bV]
  by_cases h1:k<=e
  ·rw[aN h1,gP,same (.inr h1)]
  ·have Yt:wv (b,a)≠0:=by have:M6.val a≠0:=fun h=>h0 (hz.2 h);omega
   have vV:¬((dv (b,a,e)).1=0\/k<=(dv (b,a,e)).2):=by
    rintro (hc |hc)
    ·exact Yt hc
    ·exact h1 hc
   have j8:∀n:Int,0<=n->n<4611686018427387904->wv (b,a)/((2^n.toNat:Nat):Int)=wv (b,a)/((2^(k-e).toNat:Nat):Int)->J8 k false b a e false 0 n=some (dE (qC (dv (b,a,e)) k) (wX (dv (b,a,e)) k)):=by
    intro n Eg aAO he;have hq:bl (wv (b,a)/((2^(k-e).toNat:Nat):Int)).natAbs<=524288:=bMS (gN (Ax (bOV (by decide)))) (by rw[ha];exact hb);rw[sW,gP ⟨hw,⟨Eg,aAO⟩,rfl⟩,he,gP ⟨mN hq,by omega,by omega⟩,rT];unfold qC wX;rw[decide_eq_false vV,bNX,if_neg vV];rfl
   rw[aI h1,Ip,gP ⟨hn.iU,by omega⟩,wrap_i64 (n:=(bl (M6.val a):Int)+1) (by omega) (by omega),wrap_i64 (n:=e+((bl (M6.val a):Int)+1)) (by omega) (by omega),wrap_i64 (n:=k-e)]
   by_cases h2:k<e+((bl (M6.val a):Int)+1)
   ·rw[aN h2,j8 _ (by omega) (by omega) rfl]
   ·rw[aI h2,j8 _ (by omega) (by omega) (bKY (by rw[ha];omega) (by rw[ha];omega))]
def aH:dG:=orc3 gZ (pN .i64) pB sp
theorem ok:OK 130 aH:=(eF E aE (aA kA.ok (aA kM.ok (aA Bn.ok (aA uE.ok (aA aQK.ok (aA iJ.ok aD)))))) func130).Al rfl spec
end nM
end W
namespace M
open Go AI W
theorem Zh{z e b:Int}(h:e<=b):nM.wX (aL z e) b=aL (z/p2 (b-e)) b:=by
 unfold nM.wX
 by_cases hz:z=0
 ·subst hz;rw[cV,if_pos (.inl rfl),Int.zero_ediv,cV]
 ·obtain⟨h1,h2⟩:=jH (e:=e) hz;have hn:(aL z e).1≠0:=fun h=>hz (dO.1 h)
  by_cases hb:b<=(aL z e).2
  ·rw[if_pos (.inr hb)];have g:=rN (e:=e) hz (Int.le_refl e);rw[Int.sub_self,Wo,Int.mul_one]at g;have e1:p2 ((aL z e).2-e)=p2 ((aL z e).2-b)*p2 (b-e):=by rw[<-pV (by omega) (by omega)];congr 1;omega
   rw[e1,<-Int.mul_assoc]at g;have hp:=Gm (b-e);have:z/p2 (b-e)=(aL z e).1*p2 ((aL z e).2-b):=by
    generalize aL z e=p at *;rw[<-g,Int.mul_ediv_cancel _ (by omega)]
   rw[this,uR _ _ (by omega),show b+((aL z e).2-b)=(aL z e).2 by omega,tL zF Gs]
  ·rw[aX];have e1:p2 (b-e)=p2 (b-(aL z e).2)*p2 (tz z.natAbs:Int):=by rw[<-pV (by omega) (by omega)];congr 1;omega
   rw[e1];have hp:=Gm (tz z.natAbs:Int);have:z/(p2 (b-(aL z e).2)*p2 (tz z.natAbs:Int))=(aL z e).1/p2 (b-(aL z e).2):=by
    generalize aL z e=p at *;generalize p2 (tz z.natAbs:Int)=q at *;rw[h1,bZV _ _ hp]
   rw[this];rfl
theorem Tz{z e b:Int}(_:e<=b)(hb0:-1048576<=b)(hb:b+((bl (z/p2 (b-e)).natAbs:Nat):Int)<=1048577):nM.qC (aL z e) b=true:=by
 unfold nM.qC
 by_cases hc:(aL z e).1=0\/b<=(aL z e).2
 ·rw[decide_eq_true hc,bRG]
 ·have hz:z≠0:=fun h=>hc (.inl (dO.2 h))
  obtain⟨h1,h2⟩:=jH (e:=e) hz;have e1:p2 (b-e)=p2 (b-(aL z e).2)*p2 (tz z.natAbs:Int):=by rw[<-pV (by omega) (by omega)];congr 1;omega
  have hp:=Gm (tz z.natAbs:Int);have:z/p2 (b-e)=(aL z e).1/p2 (b-(aL z e).2):=by
   rw[e1];generalize aL z e=p at *;generalize p2 (tz z.natAbs:Int)=q at *;rw[h1,bZV _ _ hp]
  rw[this]at hb;rw[decide_eq_false hc,bNX];exact fJ hb0 hb
end M
namespace W
open Go AI M
namespace Rr
def E:=mE [(64,aGL.aH),(63,iJ.aH)] 15 [] [] []
def aE:=bd f76
theorem aU:Nk E aE:=nk
theorem start a b:aF E f76 aE [D.s (sc (int i64 a)),D.s (sc (int i64 b))]=letI B:=(isNeg a,M6.dg a.natAbs);letI A:=bif fM (wv B) b then aL (wv B) b else((0:Int),(0:Int));aO ((-9223372036854775808:Int)<=a/\a<9223372036854775808) (aO (jY B/\(-9223372036854775808:Int)<=b/\b<9223372036854775808) (some [D.agg [sc (bool (isNeg A.fst)),ints u64 (M6.dg A.fst.natAbs),sc (int i64 A.snd)]])):=eJ aU
def sp(m e:Int):Prop×List D:=((-9223372036854775808<=m/\m<9223372036854775808)/\-9223372036854775808<=e/\e<9223372036854775808,[dD (bif fM m e then aL m e else(0,0))])
theorem spec:fI E f76 aE (pN .i64) (pN .i64) sp:=by
 rintro m e ⟨h1,h2⟩;refine(start m e).trans ?_;have hb:bl m.natAbs<=64:=dU.2 (by omega);rw[gP h1,gP ⟨mN (by omega),h2⟩,rT];rfl
def aH:dG:=orc2 (pN .i64) (pN .i64) sp
theorem ok:OK 76 aH:=(eF E aE (aA aGL.ok (aA iJ.ok aD)) func76).lA rfl spec
end Rr
namespace Oj
def E:=mE [(130,nM.aH)] 11 [8] [] []
def aE:=bd f77
theorem aU:Nk E aE:=nk
theorem start a c d b:aF E f77 aE [D.agg [sc (bool a),ints u64 c,sc (int i64 d)],D.s (sc (int i64 b))]=letI B:=dv (a,c,d);letI A:=bif nM.qC B b then nM.wX B b else((0:Int),(0:Int));aO (aJ (a,c,d)/\((-4611686018427387904:Int)<=b/\b<4611686018427387904)/\false=false) (some [D.agg [sc (bool (isNeg A.fst)),ints u64 (M6.dg A.fst.natAbs),sc (int i64 A.snd)],D.s (sc (int i64 (bif nM.qC B b then(0:Int)else(5:Int))))]):=eJ aU
def sp(x:dR)(b:Int):Prop×List D:=(aJ x/\-4611686018427387904<=b/\b<4611686018427387904,dE (nM.qC (dv x) b) (nM.wX (dv x) b))
theorem spec:fI E f77 aE gZ (pN .i64) sp:=fun x b h =>
 (start x.1 x.2.1 x.2.2 b).trans (gP ⟨h.1,h.2,rfl⟩)
def aH:dG:=orc2 gZ (pN .i64) sp
theorem ok:OK 77 aH:=(eF E aE (aA nM.ok aD) func77).lA rfl spec
end Oj
namespace Rq
def E:=mE [(64,aGL.aH),(131,aKK.aH),(132,zS.aH)] 19 [15] [] []
def aE:=bd f79
theorem aU:Nk E aE:=nk
theorem start a b:aF E f79 aE [D.agg [sc (bool a),ints u64 b]]=letI B:=(isNeg 4,M6.dg 4);letI A:=(isNeg (wv (a,b)%wv B),M6.dg (wv (a,b)%wv B).natAbs);aO ((-9223372036854775808:Int)<=(4:Int)/\(4:Int)<(9223372036854775808:Int)) (aO (jY (a,b)/\jY B/\isNeg 4=false/\1<=(M6.dg 4).length) (aO (jY A) (some [D.s (sc (int i64 (bif zS.uM (wv A)then wv A else(0:Int))))]))):=eJ aU
def sp(x:Bool×List Int):Prop×List D:=(jY x,[.s (.sc (.int .i64 (wv x%4)))])
theorem spec:gO E f79 aE vY sp:=by
 intro x h;have h:jY x:=h;have e4:wv (isNeg 4,M6.dg 4)=4:=rT 4;have w4:jY (isNeg 4,M6.dg 4):=mN (z:=4) (bMS (dU.2 (show(4:Int).natAbs<2^3 by decide)) (by omega));have l4:(M6.dg 4).length=1:=by
  have h1:=M6.cR (n:=4) (k:=1) (by decide);have h2:(M6.dg 4).length≠0:=fun h=>by have:=M6.gI.1 h;omega
  omega
 have hr:0<=wv x%4/\wv x%4<4:=by omega
 refine(start x.1 x.2).trans ?_;rw[gP,gP ⟨h,w4,rfl,Nat.le_of_eq l4.symm⟩,e4,rT];show aO _ _=some [D.s (.sc (.int .i64 (wv x%4)))];generalize wv (x.1,x.2)%4=r at *;rw[gP (mN (bMS (dU.2 (show r.natAbs<2^3 by omega)) (by omega)))];have:zS.uM r=true:=by unfold zS.uM;rw[decide_eq_true (by omega),decide_eq_true (by omega)];rfl
 rw[this];rfl
def aH:dG:=orc1 vY sp
theorem ok:OK 79 aH:=(eF E aE (aA aGL.ok (aA aKK.ok (aA zS.ok aD))) func79).nN rfl spec
end Rq
end W
end Go.Proofs.YtcnlagnipklcmaaGreatDoor
end
