/- Contracts of functions and laws, for the claim on TurnRatio. -/
import Derived.Test.YtcnlagnipklcmaaGreatDoorBTurnRatio3
set_option linter.unusedVariables false
set_option linter.unusedSimpArgs false
set_option exponentiation.threshold 10000000
noncomputable section
open Go.IntKind(i8 i16 i32 i64 u8 u16 u32 u64)
open Go.Proofs.Tryz
open Rat renaming le_of_lt->bSJ,intCast_natCast->bXT,le_refl->bTP,le_trans->bSH,natCast_mul->bUB,natCast_add->bXN,intCast_neg->bYC,intCast_mul->bXW,mul_pos->bSV,mul_assoc->bYL,mul_comm->bZV,intCast_add->bYY,mul_le_mul_of_nonneg_right->cAZ
open Nat renaming le_trans->bNX,pow_add->bSD,pow_succ->bSA,pow_pos->bQA,zero_le->bTF,ble->bNE,sub_le->bTZ,pow_le_pow_right->bQB,le_refl->bNB,lt_of_le_of_lt->bTQ,lt_of_lt_of_le->bOB,beq->bNC,le_of_ble_eq_true->bOZ,eq_of_beq_eq_true->bNP,mul_assoc->bSF,div_le_self->bVO,pow_lt_pow_right->bTU,add_comm->bTD,one_mul->bRE,mul_comm->bRZ,mod_lt->bPJ,zero_div->bWV,div_div_eq_div_mul->bST,mul_le_mul_right->bOO,div_lt_of_lt_mul->bSW,add_zero->bOC,zero_add->bND,div_add_mod->bSI,mul_lt_mul''->bVP,lt_succ_self->bZL,mul_le_mul_left->bPP,mul_le_mul->bXP,div_eq_of_lt->bSZ
open Int renaming toNat_natCast->bQX,toNat->cAV,eq_ofNat_of_zero_le->bSE,natAbs_natCast->bSU,natAbs->bXD,natAbs_neg->bTV,mul_nonneg->bZB,neg_mul->bWR,tdiv_eq_ediv_of_nonneg->bUQ,natCast_mul->bTA,mul_le_mul_of_nonneg_right->bPL,tmod_eq_emod_of_nonneg->bUR,natCast_nonneg->bWU,natCast_add->cAY,mul_ediv_mul_of_pos_left->cBA
open Bool renaming not_true->bPB,false_or->bPC,or_true->bTB,true_or->bSM,true_and->bQC,and_eq_true->bNH,false_and->bSL,and_false->bSO,not_false->bYZ,and_eq_false_iff->bZP
open List renaming replicate->bPE,length_nil->bQM,nil_append->bRD,length_drop->bRA,length_append->bOE,length_cons->bQL,append_assoc->bOW,take_of_length_le->bUM,getD_eq_getElem?_getD->bSG,take_succ_eq_append_getElem->bTH
open Option renaming bind_eq_some_iff->bPI
namespace Go.Proofs.YtcnlagnipklcmaaGreatDoor
open Go.Value(int bool slice)
open AI.S(sc ints)
namespace W
open Go AI M
namespace aP
def E:=mE [(153,Bo.aH),(221,THalvings.aH),(222,sJ.aH),(223,TSums.aH),(122,jA.aH),(117,mP.aH),(224,Ie.aH),(126,sR.aH)] 91 [41,56,59,74,84] [(10,[4,5,7,10,12,50,51])] []
def aE:=bd f195
theorem aU:Nk E aE:=nk
def Ir a b c d e f g:=nU E f195 aE 10 [gD a,gD b,bR c,bR d,gD e,bR f,bR g]
theorem start a c d b:aF E f195 aE [D.agg [sc (bool a),ints u64 c,sc (int i64 d)],D.s (sc (int i64 b))]=letI H:=dv (a,c,d);letI G:=M6.dg 1;aQ (aJ (a,c,d)) (aC (if H.fst=0 then(0:Int)else d+(↑(bl (M6.val c)):Int)-(1:Int)) fun e=>aQ (i64.wrap (i64.wrap (b+80)-if 0<e then(0:Int)else e)<=150000) (aC (↑(THalvings.hlv (i64.wrap (i64.wrap (b+80)-if 0<e then(0:Int)else e)) 200 4):Int) fun f=>letI B:=i64.wrap (i64.wrap (b+80)-match BinOp.lss with |BinOp.gtr=>if(0:Int)>e then(0:Int)else e |x=>if 0<e then(0:Int)else e)+i64.wrap ((2:Int)*f);letI A:=i64.wrap (i64.wrap (b+80)-if 0<e then(0:Int)else e)+i64.wrap ((2:Int)*f);letI F:=i64.wrap A+f;letI C:=i64.wrap F;aQ (aJ (a,c,d)/\(-1099511627776:Int)<=i64.wrap A/\i64.wrap A<=1099511627776/\(0<=(a,c,d).snd.snd+i64.wrap B->fit (H.fst.natAbs*(2:Nat)^((a,c,d).snd.snd+i64.wrap B).toNat)=true)) (aC (M6.dg (sJ.aIL H (i64.wrap A))) fun g=>aQ (M6.cD g/\0<=i64.wrap F/\i64.wrap F<=150000/\(2:Nat)*M6.val g<=(2:Nat)^C.toNat) (aC (M6.dg (TSums.Tc (M6.val g) C.toNat)) fun h=>aC (M6.dg (TSums.Td (M6.val g) C.toNat)) fun i=>aQ ((0:Int)<=(1:Int)/\(1:Int)<(18446744073709551616:Int)) (aQ (M6.cD G/\G.length<=8192/\0<=i64.wrap F/\i64.wrap F<4611686018427387904) (aC (bif jA.iC (M6.val G) C.toNat then M6.dg (M6.val G*(2:Nat)^C.toNat)else []) fun j=>aP.Ir h i C f j f 0)))))):=eJ aU
theorem sL a b c d e f g:Ir a b c d e f g=letI B:=M6.dg 1;letI A:=i64.wrap ((2:Int)*d)+22;aB (decide (g<f)) (aQ (M6.cD a/\M6.cD b/\a.length<=4096/\b.length<=4096/\0<=c/\c<4611686018427387904) (aC (M6.dg (M6.val a*M6.val b/(2:Nat)^c.toNat)) fun h=>aQ (M6.cD h/\h.length<=8192/\(0:Int)<=(1:Int)/\(1:Int)<(4611686018427387904:Int)) (aC (bif jA.iC (M6.val h) 1 then M6.dg (M6.val h*2)else []) fun i=>aQ (M6.cD a/\M6.cD a/\a.length<=4096/\a.length<=4096/\0<=c/\c<4611686018427387904) (aC (M6.dg (M6.val a*M6.val a/(2:Nat)^c.toNat)) fun j=>aQ (M6.cD j/\j.length<=8192/\(0:Int)<=(1:Int)/\(1:Int)<(4611686018427387904:Int)) (aC (bif jA.iC (M6.val j) 1 then M6.dg (M6.val j*2)else []) fun k=>aQ (M6.cD e/\M6.cD k/\e.length<=8192/\k.length<=8192) (aC (M6.dg (M6.val e-M6.val k)) fun l=>aP.Ir i l c d e f (i64.wrap (g+1)))))))) (aQ ((0:Int)<=(1:Int)/\(1:Int)<(18446744073709551616:Int)) (aQ (M6.cD B/\B.length<=8192/\0<=i64.wrap A/\i64.wrap A<4611686018427387904) (aC (bif jA.iC (M6.val B) (i64.wrap A).toNat then M6.dg (M6.val B*(2:Nat)^(i64.wrap A).toNat)else []) fun m=>some [D.s (ints u64 a),D.s (ints u64 b),D.s (ints u64 m),D.s (sc (int i64 c))]))):=lJ aU
def gR(x:Int×Int):Int:=if x.1=0 then 0 else x.2+(bl x.1.natAbs:Nat)-1
def w0(x:Int×Int)(p:Int):Int:=p+80-if 0<gR x then 0 else gR x
def hv(x:Int×Int)(p:Int):Nat:=THalvings.hlv (w0 x p) 200 4
def w1(x:Int×Int)(p:Int):Int:=w0 x p+2*(hv x p:Nat)
def w2(x:Int×Int)(p:Int):Int:=w1 x p+(hv x p:Nat)
def bU(x:Int×Int)(p:Int):Nat:=sJ.aIL x (w1 x p)
def yT(x:Int×Int)(p:Int):Nat×Nat:=R.Cy (2^(w2 x p).toNat) (hv x p) (TSums.Tc (bU x p) (w2 x p).toNat) (TSums.Td (bU x p) (w2 x p).toNat)
def sp(x:dU)(p:Int):Prop×List D:=(aJ x/\(1<=p/\p<=70000)/\(-70000<=gR (dv x)/\gR (dv x)<=100)/\bU (dv x) p<=2^(w1 (dv x) p).toNat,
 [.s (.ints .u64 (M6.dg (yT (dv x) p).1)),.s (.ints .u64 (M6.dg (yT (dv x) p).2)),.s (.ints .u64 (M6.dg (2^(2*hv (dv x) p+22)))),.s (.sc (.int .i64 (w2 (dv x) p)))])
theorem Uf(w:Int):∀f h,THalvings.hlv w f h<=h+f/\h<=THalvings.hlv w f h
 |0,h=>⟨bNB _,bNB _⟩
 |f+1,h=>by
  unfold THalvings.hlv;have:=Uf w f (h+1);split <;> omega
theorem aCE{u W:Nat}(hu:u<=W):∀f k a b c d,a<=k*W->b<=k*W->c<=k*W->d<=k*W ->
  (TSums.tay u W f k a b c d).1<=(k+f)*W/\(TSums.tay u W f k a b c d).2.1<=(k+f)*W
 |0,k,a,b,c,d,ha,hb,_,_=>⟨ha,hb⟩
 |f+1,k,a,b,c,d,ha,hb,hc,hd=>by
  have hs:=TSums.Ge hu k;have e:(k+1)*W=k*W+W:=by rw[Nat.add_mul,bRE]
  have e2:k*W<=(k+(f+1))*W:=bOO _ (by omega);have e3:k+1+f=k+(f+1):=by omega
  have r:=fun a b c d h1 h2 h3 h4=>e3▸aCE hu f (k+1) a b c d h1 h2 h3 h4
  unfold TSums.tay;split
  ·exact⟨bNX ha e2,bNX hb e2⟩
  ·split
   ·exact r _ _ _ _ (by omega) (by omega) (by omega) (by omega)
   ·split
    ·exact r _ _ _ _ (by omega) (by omega) (by omega) (by omega)
    ·split
     ·exact r _ _ _ _ (by omega) (by omega) (by omega) (by omega)
     ·exact r _ _ _ _ (by omega) (by omega) (by omega) (by omega)
theorem L{w:Nat}(hw:w<=150000)(x3:Nat)(h3:x3<=1000):∀(d k s c:Nat),k+d=x3->s<2^(w+20*(k+1))->c<2^(w+18)->k+d<=210 ->
  Ir (M6.dg s) (M6.dg c) w x3 (M6.dg (2^w)) x3 k=some [.s (.ints .u64 (M6.dg (R.Cy (2^w) d s c).1)),.s (.ints .u64 (M6.dg (R.Cy (2^w) d s c).2)),.s (.ints .u64 (M6.dg (2^(2*x3+22)))),.s (.sc (.int .i64 w))]
 |0,k,s,c,hk,hs,hc,hb=>by
  have e1:i64.wrap (2*(x3:Int))=2*(x3:Int):=wrap_i64;have e2:i64.wrap (2*(x3:Int)+22)=((2*x3+22:Nat):Int):=by rw[wrap_i64];omega
  have so:jA.iC 1 (2*x3+22)=true:=by
   unfold jA.iC;rw[show bl 1=1 from rfl,decide_eq_true (show 1+(2*x3+22)<=524288 by omega),bTB]
  have l1:(M6.dg 1).length<=8192:=dA.jX (k:=1) (by decide) (by decide);rw[sL,aI,e1,e2];simp only[aL,M6.bJ,bQX,so,cond_true,bRE];rw[gP ⟨by decide,by decide⟩,gP ⟨M6.aW _,l1,by omega,by omega⟩];rfl
 |d+1,k,s,c,hk,hs,hc,hb=>by
  have e:i64.wrap ((k:Int)+1)=((k+1:Nat):Int):=by rw[wrap_i64];omega
  have ls:(M6.dg s).length<=4096:=eZ (k:=4096) (bNX (dV.2 hs) (by omega));have lc:(M6.dg c).length<=4096:=eZ (k:=4096) (bNX (dV.2 hc) (by omega));have W0:0<2^w:=bQA (by decide);have b1:s*c/2^w<2^(w+20*(k+1)+18):=by
   apply bSW;have:2^w*2^(w+20*(k+1)+18)=2^(w+20*(k+1))*2^(w+18):=by rw[<-bSD,<-bSD];congr 1;omega
   rw[this];exact bVP hs hc
  have b2:s*s/2^w<2^(w+40*(k+1)):=by
   apply bSW;have:2^w*2^(w+40*(k+1))=2^(w+20*(k+1))*2^(w+20*(k+1)):=by rw[<-bSD,<-bSD];congr 1;omega
   rw[this];exact bVP hs hs
  have so:∀n,bl n<=500000->jA.iC n 1=true:=fun n hn=>by
   unfold jA.iC;rw[decide_eq_true (show bl n+1<=524288 by omega),bTB]
  have f1:=so _ (bNX (dV.2 b1) (by omega));have f2:=so _ (bNX (dV.2 b2) (by omega));have b3:s*s/2^w*2<2^(w+40*(k+1)+1):=by rw[bSA];omega
  have b4:s*c/2^w*2<2^(w+20*(k+1+1)):=by
   have:2^(w+20*(k+1)+18)*2<=2^(w+20*(k+1+1)):=by rw[<-bSA];exact bQB (by decide) (by omega)
   omega
  have b5:2^w-s*s/2^w*2<2^(w+18):=bTQ (bTZ _ _) (bTU (by decide) (by omega));rw[sL,aO];simp only[aL,M6.bJ,bQX,f1,f2,cond_true,e];rw[gP ⟨M6.aW _,M6.aW _,ls,lc,by omega,by omega⟩,gP ⟨M6.aW _,dA.jX b1 (by omega),by decide,by decide⟩,gP ⟨M6.aW _,M6.aW _,ls,ls,by omega,by omega⟩,gP ⟨M6.aW _,dA.jX b2 (by omega),by decide,by decide⟩,
   gP ⟨M6.aW _,M6.aW _,dA.jX (bTU (by decide) (bZL w)) (by omega),dA.jX b3 (by omega)⟩]
  have r:=L hw x3 h3 d (k+1) (s*c/2^w*2) (2^w-s*s/2^w*2) (by omega) b4 b5 (by omega);rw[R.Lb,bRZ 2 (s*c/2^w),bRZ 2 (s*s/2^w)];exact r
theorem spec:fO E f195 aE hZ (pN .i64) sp:=by
 rintro x p ⟨hx,⟨p0,p1⟩,⟨t0,t1⟩,hu⟩;refine(start x.1 x.2.1 x.2.2 p).trans ?_;have he:=hx.2.1;have ha:(dv x).1.natAbs=M6.val x.2.1:=iZ (x.1,x.2.1);have hT:(if(dv (x.1,x.2.1,x.2.2)).1=0 then 0 else x.2.2+(bl (M6.val x.2.1):Int)-1)=gR (dv x):=by rw[<-ha];rfl
 have aRQ:w0 (dv x) p=p+80-if 0<gR (dv x)then 0 else gR (dv x):=rfl
 have r0:1<=w0 (dv x) p/\w0 (dv x) p<=140080:=by rw[aRQ];split <;> omega
 have e1:i64.wrap (p+80)=p+80:=wrap_i64;have e2:i64.wrap (p+80-if 0<gR (dv x)then 0 else gR (dv x))=w0 (dv x) p:=by rw[<-aRQ];exact wrap_i64
 have hh:=Uf (w0 (dv x) p) 200 4;have hv0:THalvings.hlv (w0 (dv x) p) 200 4=hv (dv x) p:=rfl;rw[hv0]at hh;have aVP:w1 (dv x) p=w0 (dv x) p+2*((hv (dv x) p:Nat):Int):=rfl;have bLL:w2 (dv x) p=w1 (dv x) p+((hv (dv x) p:Nat):Int):=rfl;have e3:i64.wrap (2*((hv (dv x) p:Nat):Int))=2*((hv (dv x) p:Nat):Int):=wrap_i64;have e4:i64.wrap (w0 (dv x) p+2*((hv (dv x) p:Nat):Int))=w1 (dv x) p:=by rw[aVP];exact wrap_i64
 have e5:i64.wrap (w1 (dv x) p+((hv (dv x) p:Nat):Int))=w2 (dv x) p:=by rw[bLL];exact wrap_i64
 have hU:sJ.aIL (dv x) (w1 (dv x) p)=bU (dv x) p:=rfl;have aTK:(x.1,x.2.1,x.2.2)=x:=rfl;simp only[hT,aL,e1,e2,hv0,e3,e4,e5,aTK,M6.bJ,hU];obtain⟨w,hw⟩:=bSE (show 0<=w2 (dv x) p by omega);have bLP:2*bU (dv x) p<=2^w:=by
  have:2^(w1 (dv x) p).toNat*2<=2^w:=by rw[<-bSA];exact bQB (by decide) (by omega)
  omega
 have so:jA.iC 1 w=true:=by
  unfold jA.iC;rw[show bl 1=1 from rfl,decide_eq_true (show 1+w<=524288 by omega),bTB]
 have l1:(M6.dg 1).length<=8192:=dA.jX (k:=1) (by decide) (by decide);have Jo:0<=x.2.2+w1 (dv x) p->fit ((dv x).1.natAbs*2^(x.2.2+w1 (dv x) p).toNat)=true:=fun hc=>by
  have:bU (dv x) p=(dv x).1.natAbs*2^(x.2.2+w1 (dv x) p).toNat:=by
   rw[<-hU];unfold sJ.aIL;exact if_pos hc
  rw[<-this];exact decide_eq_true (bNX (dV.2 (bTQ hu (bTU (by decide) (bZL _)))) (by omega))
 unfold sp yT;dsimp only;have hwb:w<=141000:=by omega
 rw[hw];rw[bQX,so,cond_true,bRE];rw[gP hx,gP,gP ⟨hx,by omega,by omega,Jo⟩,gP ⟨M6.aW _,by omega,by omega,bLP⟩,gP ⟨by decide,by decide⟩,gP ⟨M6.aW _,l1,by omega,by omega⟩];obtain⟨g1,g2⟩:=aCE (u:=bU (dv x) p) (W:=2^w) (by omega) (w+1) 0 0 0 0 0 (by omega) (by omega) (by omega) (by omega);have pw:(0+(w+1))*2^w<2^(w+18):=by
  rw[bSD,bRZ];exact Nat.mul_lt_mul_of_pos_left (by omega) (bQA (by decide))
 have hs:TSums.Tc (bU (dv x) p) w<2^(w+18):=bTQ (bNX (bTZ _ _) g2) pw;have hc:TSums.Td (bU (dv x) p) w<2^(w+18):=bTQ (bNX (bTZ _ _) g1) pw;exact L (by omega) (hv (dv x) p) (by omega) (hv (dv x) p) 0 _ _ (by omega) (bOB hs (bQB (by decide) (by omega))) hc (by omega)
def aH:dC:=orc2 hZ (pN .i64) sp
theorem ok:OK 195 aH:=(eI E aE (aA Bo.ok (aA THalvings.ok (aA sJ.ok (aA TSums.ok (aA jA.ok (aA mP.ok (aA Ie.ok (aA sR.ok aD)))))))) func195).lP rfl spec
end aP
namespace Sm
def E:=mE [(164,xS.aH),(61,lB.aH),(166,bV.aH)] 25 [22] [] []
def aE:=bd f155
theorem aU:Nk E aE:=nk
theorem start a d e b c:aF E f155 aE [D.agg [sc (bool a),ints u64 d,sc (int i64 e)],D.s (sc (int i64 b)),D.s (sc (bool c))]=letI A:=bV.mA c (wv (a,d)) e b;letI B:=bif fN A.fst A.snd then aK A.fst A.snd else((0:Int),(0:Int));aQ True (aC (decide (1<=b)&&decide (b<=70000)) fun f=>aB (!f) (some [D.agg [sc (bool false),sc (slice none 0 0),sc (int i64 0)],D.s (sc (int i64 1))]) (aQ (aJ (a,d,e)) (aQ (kA (a,d)/\((-4611686018427387904:Int)<=e/\e<4611686018427387904)/\1<=b/\b<=70000) (aC (isNeg B.fst) fun g=>aC (M6.dg B.fst.natAbs) fun h=>aC B.snd fun i=>aC (bif fN A.fst A.snd then(0:Int)else(5:Int)) fun j=>some [D.agg [sc (bool g),ints u64 h,sc (int i64 i)],D.s (sc (int i64 j))])))):=eJ aU
def sp(x:dU)(p:Int)(up:Bool):Prop×List D:=(aJ x/\1<=p/\p<=70000,dE (fN (bV.mA up (dv x).1 (dv x).2 p).1 (bV.mA up (dv x).1 (dv x).2 p).2) (aK (bV.mA up (dv x).1 (dv x).2 p).1 (bV.mA up (dv x).1 (dv x).2 p).2))
theorem spec:tL E f155 aE hZ (pN .i64) pB sp:=by
 rintro x p up ⟨hx,h1,h2⟩;have he:=hx.2.1;refine(start x.1 x.2.1 x.2.2 p up).trans ?_;simp only[aL];rw[gP trivial,decide_eq_true h1,decide_eq_true h2,bQC,bPB,bF,gP hx,gP ⟨hx.Dr,⟨by omega,by omega⟩,h1,h2⟩];rfl
def aH:dC:=orc3 hZ (pN .i64) pB sp
theorem ok:OK 155 aH:=(eI E aE (aA xS.ok (aA lB.ok (aA bV.ok aD))) func155).Bp rfl spec
end Sm
namespace Iw
def E:=mE [(155,Sm.aH)] 11 [8] [] []
def aE:=bd f100
theorem aU:Nk E aE:=nk
theorem start a c d b:aF E f100 aE [D.agg [sc (bool a),ints u64 c,sc (int i64 d)],D.s (sc (int i64 b))]=letI A:=bV.mA false (dv (a,c,d)).fst (dv (a,c,d)).snd b;letI B:=bif fN A.fst A.snd then aK A.fst A.snd else((0:Int),(0:Int));aQ (aJ (a,c,d)/\1<=b/\b<=70000) (some [D.agg [sc (bool (isNeg B.fst)),ints u64 (M6.dg B.fst.natAbs),sc (int i64 B.snd)],D.s (sc (int i64 (bif fN A.fst A.snd then(0:Int)else(5:Int))))]):=eJ aU
def sp(x:dU)(p:Int):Prop×List D:=(aJ x/\1<=p/\p<=70000,dE (fN (bV.mA false (dv x).1 (dv x).2 p).1 (bV.mA false (dv x).1 (dv x).2 p).2) (aK (bV.mA false (dv x).1 (dv x).2 p).1 (bV.mA false (dv x).1 (dv x).2 p).2))
theorem spec:fO E f100 aE hZ (pN .i64) sp:=by
 intro x p h;refine(start x.1 x.2.1 x.2.2 p).trans ((gP h).trans ?_);rfl
def aH:dC:=orc2 hZ (pN .i64) sp
theorem ok:OK 100 aH:=(eI E aE (aA Sm.ok aD) func100).lP rfl spec
end Iw
namespace aRB
def E:=mE [(155,Sm.aH)] 11 [8] [] []
def aE:=bd f101
theorem aU:Nk E aE:=nk
theorem start a c d b:aF E f101 aE [D.agg [sc (bool a),ints u64 c,sc (int i64 d)],D.s (sc (int i64 b))]=letI A:=bV.mA true (dv (a,c,d)).fst (dv (a,c,d)).snd b;letI B:=bif fN A.fst A.snd then aK A.fst A.snd else((0:Int),(0:Int));aQ (aJ (a,c,d)/\1<=b/\b<=70000) (some [D.agg [sc (bool (isNeg B.fst)),ints u64 (M6.dg B.fst.natAbs),sc (int i64 B.snd)],D.s (sc (int i64 (bif fN A.fst A.snd then(0:Int)else(5:Int))))]):=eJ aU
def sp(x:dU)(p:Int):Prop×List D:=(aJ x/\1<=p/\p<=70000,dE (fN (bV.mA true (dv x).1 (dv x).2 p).1 (bV.mA true (dv x).1 (dv x).2 p).2) (aK (bV.mA true (dv x).1 (dv x).2 p).1 (bV.mA true (dv x).1 (dv x).2 p).2))
theorem spec:fO E f101 aE hZ (pN .i64) sp:=by
 intro x p h;refine(start x.1 x.2.1 x.2.2 p).trans ((gP h).trans ?_);rfl
def aH:dC:=orc2 hZ (pN .i64) sp
theorem ok:OK 101 aH:=(eI E aE (aA Sm.ok aD) func101).lP rfl spec
end aRB
namespace bA
def E:=mE [(126,sR.aH),(124,rE.aH),(63,iK.aH),(100,Iw.aH),(101,aRB.aH),(113,Kg.aH),(24,aLO.aH)] 71 [] [] []
def aE:=bd f196
theorem aU:Nk E aE:=nk
theorem start a b c d:aF E f196 aE [D.s (ints u64 a),D.s (ints u64 b),D.s (sc (int i64 c)),D.s (sc (int i64 d))]=letI P:=M6.val a+M6.val b;letI N:=aK 1 0;letI O:=M6.dg N.fst.natAbs;letI K:=M6.cD a/\M6.cD b/\a.length<=8192/\b.length<=8192;letI I:=i64.wrap ((0:Int)-c);aQ K (aC (M6.dg (M6.val a-M6.val b)) fun e=>letI C:=bif fN (wv (false,e)) I then aK (wv (false,e)) I else((0:Int),(0:Int));aQ K (aC (bif bZ.kX P then M6.dg P else []) fun f=>letI F:=bif fN (wv (false,f)) I then aK (wv (false,f)) I else((0:Int),(0:Int));aQ (kA (false,e)/\(-9223372036854775808:Int)<=i64.wrap ((0:Int)-c)/\i64.wrap ((0:Int)-c)<9223372036854775808) (aC (isNeg C.fst) fun g=>aC (M6.dg C.fst.natAbs) fun h=>aC C.snd fun i=>letI A:=bV.mA false (dv (g,h,i)).fst (dv (g,h,i)).snd d;letI G:=bif fN A.fst A.snd then aK A.fst A.snd else((0:Int),(0:Int));aQ (kA (false,f)/\(-9223372036854775808:Int)<=i64.wrap ((0:Int)-c)/\i64.wrap ((0:Int)-c)<9223372036854775808) (aC (isNeg F.fst) fun j=>aC (M6.dg F.fst.natAbs) fun k=>aC F.snd fun l=>letI B:=bV.mA true (dv (j,k,l)).fst (dv (j,k,l)).snd d;letI H:=bif fN B.fst B.snd then aK B.fst B.snd else((0:Int),(0:Int));aQ (aJ (g,h,i)/\1<=d/\d<=70000) (aC (isNeg G.fst) fun m=>aC (M6.dg G.fst.natAbs) fun n=>aC G.snd fun o=>aQ (aJ (j,k,l)/\1<=d/\d<=70000) (aC (isNeg H.fst) fun p=>aC (M6.dg H.fst.natAbs) fun q=>aC H.snd fun r=>aQ ((-9223372036854775808:Int)<=(1:Int)/\(1:Int)<(9223372036854775808:Int)) (aC (isNeg N.fst) fun s=>aC O fun t=>aC N.snd fun u=>aQ (aJ (p,q,r)/\aJ (s,t,u)) (aC (lG (bM.lK (dv (p,q,r)) (dv (s,t,u))) (bM.lI (dv (p,q,r)) (dv (s,t,u)))) fun v=>aB (decide (0<v)) (aQ ((-9223372036854775808:Int)<=(1:Int)/\(1:Int)<(9223372036854775808:Int)) (aC (isNeg N.fst) fun w=>aC O fun x=>aC N.snd fun y=>some [D.agg [sc (bool m),ints u64 n,sc (int i64 o),sc (bool w),ints u64 x,sc (int i64 y)]])) (some [D.agg [sc (bool m),ints u64 n,sc (int i64 o),sc (bool p),ints u64 q,sc (int i64 r)]]))))))))):=eJ aU
def Et(a f:Nat)(w:Int):Int×Int:=aK ((a-f:Nat):Int) (-w)
def yX(a f:Nat)(w:Int):Int×Int:=aK ((a+f:Nat):Int) (-w)
def vE(p:Int×Int):Int×Int:=bif decide (0<cO p (1,0))then(1,0)else p
def sp(a f:List Int)(w q:Int):Prop×List D:=(M6.cD a/\M6.cD f/\bl (M6.val a)<=500000/\bl (M6.val f)<=500000/\(0<=w/\w<=500000)/\(1<=q/\q<=70000)/\wA false (Et (M6.val a) (M6.val f) w) q=true/\wA true (yX (M6.val a) (M6.val f) w) q=true/\jG (shD true (yX (M6.val a) (M6.val f) w) q),
 [yM (shD false (Et (M6.val a) (M6.val f) w) q) (vE (shD true (yX (M6.val a) (M6.val f) w) q))])
theorem spec:aHE E f196 aE (pI .u64) (pI .u64) (pN .i64) (pN .i64) sp:=by
 rintro a f w q ⟨ha,hf,ba,bf,⟨w0,w1⟩,⟨q0,q1⟩,i1,i2,pu⟩;refine(start a f w q).trans ?_;have la:a.length<=8192:=by
  have e:M6.dg (M6.val a)=a:=by first |exact ha |exact Eq.symm ha
  rw[<-e];exact eZ (k:=8192) (by omega)
 have lf:f.length<=8192:=by
  have e:M6.dg (M6.val f)=f:=by first |exact hf |exact Eq.symm hf
  rw[<-e];exact eZ (k:=8192) (by omega)
 have vN:∀n:Nat,wv (false,M6.dg n)=(n:Int):=fun n=>by show(M6.val (M6.dg n):Int)=n;rw[M6.bJ]
 have wN:∀n:Nat,bl n<=524288->kA (false,M6.dg n):=fun n hn=>by
  have:=mR (z:=(n:Int)) (by rw[bSU];exact hn);rw[jL.2 (by omega),bSU]at this;exact this
 have bs:bl (M6.val a-M6.val f)<=500000:=bNX (gU (bTZ _ _)) ba;have bt:bl (M6.val a+M6.val f)<=500001:=by
  have h1:=dV.1 ba;have h2:=dV.1 bf;refine dV.2 ?_;rw[bSA 2 500000];generalize 2^500000=Q at *;omega
 have ok:bZ.kX (M6.val a+M6.val f)=true:=decide_eq_true (eZ (k:=8192) (by omega));have ew:i64.wrap (0-w)=-w:=by rw[wrap_i64];omega
 have j1:fN ((M6.val a-M6.val f:Nat):Int) (-w)=true:=fP (by omega) (by rw[bSU];omega);have j2:fN ((M6.val a+M6.val f:Nat):Int) (-w)=true:=fP (by omega) (by rw[bSU];omega);have p1:jG (Et (M6.val a) (M6.val f) w):=fM j1 (by rw[bSU];omega);have p2:jG (yX (M6.val a) (M6.val f) w):=fM j2 (by rw[bSU];omega);have c1:=dK (Et (M6.val a) (M6.val f) w);have c2:=dK (yX (M6.val a) (M6.val f) w);have n1:aK 1 0=(1,0):=by decide +kernel
 have pn:jG (1,0):=⟨by decide +kernel,⟨by decide,by decide⟩,fun h=>absurd h (by decide),fun _=>by decide⟩;have d1:=cQ pn;have v1:=dK ((1,0):Int×Int);rw[gP ⟨ha,hf,la,lf⟩,aL,gP ⟨ha,hf,la,lf⟩];simp only[aL,ok,cond_true,vN,ew,j1,j2,n1];rw[gP ⟨wN _ (by omega),by omega,by omega⟩,gP ⟨wN _ (by omega),by omega,by omega⟩];have eL:aK ((M6.val a-M6.val f:Nat):Int) (-w)=Et (M6.val a) (M6.val f) w:=rfl;have eH:aK ((M6.val a+M6.val f:Nat):Int) (-w)=yX (M6.val a) (M6.val f) w:=rfl;unfold sp vE;dsimp only;rw[eL,eH];generalize Et (M6.val a) (M6.val f) w=L at *;generalize yX (M6.val a) (M6.val f) w=H at *;have aZH:fN (bV.mA false L.1 L.2 q).1 (bV.mA false L.1 L.2 q).2=true:=i1;have aZG:fN (bV.mA true H.1 H.2 q).1 (bV.mA true H.1 H.2 q).2=true:=i2;have cu:=dK (shD true H q);have du:=cQ pu;have eU:aK (bV.mA true H.1 H.2 q).1 (bV.mA true H.1 H.2 q).2=shD true H q:=rfl;have eD:aK (bV.mA false L.1 L.2 q).1 (bV.mA false L.1 L.2 q).2=shD false L q:=rfl;simp only[c1,c2,aZH,aZG,cond_true,eU,eD,cu,v1];rw[gP ⟨cQ p1,q0,q1⟩,gP ⟨cQ p2,q0,q1⟩,gP ⟨by decide,by decide⟩,gP ⟨du,d1⟩];show aB (decide (0<cO (shD true H q) (1,0))) _ _=_
 by_cases g:0<cO (shD true H q) (1,0)
 ·rw[aO g,decide_eq_true g,cond_true,gP ⟨by decide,by decide⟩];rfl
 ·rw[aI g,decide_eq_false g,cond_false];rfl
def aH:dC:=orc4 (pI .u64) (pI .u64) (pN .i64) (pN .i64) sp
theorem ok:OK 196 aH:=(eI E aE (aA sR.ok (aA rE.ok (aA iK.ok (aA Iw.ok (aA aRB.ok (aA Kg.ok (aA aLO.ok aD))))))) func196).aSU rfl spec
end bA
namespace bC
def E:=mE [(193,Ig.aH),(153,Bo.aH),(63,iK.aH),(64,aHM.aH),(78,Vs.aH),(24,aLO.aH),(195,aP.aH),(196,bA.aH)] 63 [] [] []
def aE:=bd f152
theorem aU:Nk E aE:=nk
theorem start a c d b:aF E f152 aE [D.agg [sc (bool a),ints u64 c,sc (int i64 d)],D.s (sc (int i64 b))]=letI Q:=wv (isNeg 1,M6.dg (bXD 1));letI N:=i64.wrap (b+32);letI I:=i64.wrap ((0:Int)-b)-3;letI H:=dv (a,c,d);letI G:=aK 1 0;letI T:=isNeg G.fst;letI K:=M6.dg G.fst.natAbs;letI A:=bif fN Q (i64.wrap I)then aK Q (i64.wrap I)else((0:Int),(0:Int));aB ((c.length:Int)==(0:Int)) (aQ ((-1000000:Int)<=(1:Int)/\(1:Int)<=(1000000:Int)) (aC T fun e=>aC K fun f=>aC G.snd fun g=>aC T fun h=>aC K fun i=>aC G.snd fun j=>some [D.agg [sc (bool e),ints u64 f,sc (int i64 g),sc (bool h),ints u64 i,sc (int i64 j)]])) (aQ (aJ (a,c,d)) (aC (if H.fst=0 then(0:Int)else d+(↑(bl (M6.val c)):Int)-(1:Int)) fun k=>aB (decide (i64.wrap (i64.wrap ((2:Int)*k)+8)<i64.wrap ((0:Int)-b))) (aQ ((-9223372036854775808:Int)<=(1:Int)/\(1:Int)<(9223372036854775808:Int)) (aQ (kA (isNeg 1,M6.dg 1)/\(-9223372036854775808:Int)<=i64.wrap I/\i64.wrap I<9223372036854775808) (aC (isNeg A.fst) fun l=>aC (M6.dg A.fst.natAbs) fun m=>aC A.snd fun n=>letI U:=dv (l,m,n);aQ ((-9223372036854775808:Int)<=(1:Int)/\(1:Int)<(9223372036854775808:Int)) (aC T fun o=>aC K fun p=>aC G.snd fun q=>letI B:=bif bM.jZ (dv (o,p,q)) (-U.fst,U.snd)then bM.oT (dv (o,p,q)) (-U.fst,U.snd)else((0:Int),(0:Int));aQ (aJ (o,p,q)/\aJ (l,m,n)) (aC (isNeg B.fst) fun r=>aC (M6.dg B.fst.natAbs) fun s=>aC B.snd fun t=>aQ ((-9223372036854775808:Int)<=(1:Int)/\(1:Int)<(9223372036854775808:Int)) (aC T fun u=>aC K fun v=>aC G.snd fun w=>some [D.agg [sc (bool r),ints u64 s,sc (int i64 t),sc (bool u),ints u64 v,sc (int i64 w)]])))))) (aQ (aJ (a,c,d)/\(1<=b/\b<=70000)/\((-70000:Int)<=aP.gR H/\aP.gR H<=100)/\aP.bU H b<=(2:Nat)^(aP.w1 H b).toNat) (aC (M6.dg (aP.yT H b).snd) fun x=>aC (M6.dg ((2:Nat)^((2:Nat)*aP.hv H b+22))) fun y=>aC (aP.w2 H b) fun z=>letI P:=bA.yX (M6.val x) (M6.val y) z;letI O:=bA.Et (M6.val x) (M6.val y) z;letI F:=M.shD false O N;letI C:=M.shD true P N;letI W:=bA.vE C;aQ (M6.cD x/\M6.cD y/\bl (M6.val x)<=500000/\bl (M6.val y)<=500000/\(0<=z/\z<=500000)/\(1<=i64.wrap (b+32)/\i64.wrap (b+32)<=70000)/\wA false O N=true/\wA true P N=true/\jG C) (aC (isNeg F.fst) fun aa=>aC (M6.dg F.fst.natAbs) fun ab=>aC F.snd fun ac=>aC (isNeg W.fst) fun ad=>aC (M6.dg W.fst.natAbs) fun ae=>aC W.snd fun af=>some [D.agg [sc (bool aa),ints u64 ab,sc (int i64 ac),sc (bool ad),ints u64 ae,sc (int i64 af)]]))))):=eJ aU
def rD(x:Int×Int)(p:Int):Int×Int:=if x.1=0 then(1,0)else if 2*aP.gR x+8 < -p then bM.oT (1,0) (-1,-p-3)else shD false (bA.Et (aP.yT x p).2 (2^(2*aP.hv x p+22)) (aP.w2 x p)) (p+32)
def qD(x:Int×Int)(p:Int):Int×Int:=if x.1=0 then(1,0)else if 2*aP.gR x+8 < -p then(1,0)else bA.vE (shD true (bA.yX (aP.yT x p).2 (2^(2*aP.hv x p+22)) (aP.w2 x p)) (p+32))
def Ob(x:Int×Int)(p:Int):Prop:=(-70000<=aP.gR x/\aP.gR x<=100)/\aP.bU x p<=2^(aP.w1 x p).toNat
def aGZ(a f:Nat)(w q:Int):Prop:=bl a<=500000/\bl f<=500000/\(0<=w/\w<=500000)/\wA false (bA.Et a f w) q=true/\wA true (bA.yX a f w) q=true/\jG (shD true (bA.yX a f w) q)
def aAQ(x:dU)(p:Int):Prop:=aJ x/\(1<=p/\p<=67100)/\((dv x).1≠0->-600000<=aP.gR (dv x)/\(2*aP.gR (dv x)+8 < -p->bM.jZ (1,0) (-1,-p-3)=true) /\
 (¬2*aP.gR (dv x)+8 < -p->Ob (dv x) p/\aGZ (aP.yT (dv x) p).2 (2^(2*aP.hv (dv x) p+22)) (aP.w2 (dv x) p) (p+32)))
def sp(x:dU)(p:Int):Prop×List D:=(aAQ x p,
 [yM (rD (dv x) p) (qD (dv x) p)])
theorem spec:fO E f152 aE hZ (pN .i64) sp:=by
 rintro x p ⟨hx,⟨p0,p1⟩,h⟩;refine(start x.1 x.2.1 x.2.2 p).trans ?_;have hz:=M6.cS hx.Iz;have hl:=hx.len;have he:=hx.2.1;have ha:(dv x).1.natAbs=M6.val x.2.1:=iZ (x.1,x.2.1);have aTK:(x.1,x.2.1,x.2.2)=x:=rfl;have n1:aK 1 0=(1,0):=by decide +kernel
 have v1:wv (isNeg 1,M6.dg (bXD 1))=1:=rT 1;have hT:(if(dv x).1=0 then 0 else x.2.2+(bl (M6.val x.2.1):Int)-1)=aP.gR (dv x):=by rw[<-ha];rfl
 have k1:kA (isNeg 1,M6.dg 1):=mR (z:=1) (by decide +kernel);have pn:jG (1,0):=⟨by decide +kernel,⟨by decide,by decide⟩,fun h=>absurd h (by decide),fun _=>by decide⟩;unfold sp rD qD;dsimp only
 by_cases c0:(dv x).1=0
 ·rw[cF (by have:=hz.2 (by omega);omega),gP ⟨by decide,by decide⟩,if_pos c0,if_pos c0];simp only[aL,n1];rfl
 ·obtain⟨t0,hA,hB⟩:=h c0;have tt:=hx.uS.top;have l0:x.2.1.length≠0:=fun hc=>c0 (by have:=hz.1 hc;omega)
  simp only[aTK,hT,aL,n1,v1];rw[bS,if_neg c0,if_neg c0];have tU:aP.gR (dv x)<=1572864:=by unfold aP.gR;rw[if_neg c0];exact tt.2
  have w1:i64.wrap (i64.wrap (2*aP.gR (dv x))+8)=2*aP.gR (dv x)+8:=by rw[wrap_i64 (n:=2*aP.gR (dv x)),wrap_i64]
  have w2:i64.wrap (0-p)=-p:=by rw[wrap_i64];omega
  have w3:i64.wrap (-p-3)=-p-3:=wrap_i64;have w4:i64.wrap (p+32)=p+32:=wrap_i64;simp only[w1,w2,w3,w4];rw[gP hx]
  by_cases c1:2*aP.gR (dv x)+8 < -p
  ·have b1:bl (bXD 1)=1:=rfl;have i1:fN 1 (-p-3)=true:=fP (by omega) (by rw[b1];omega);have m1:aK 1 (-p-3)=(1,-p-3):=by
    unfold aK;rw[if_neg (by decide),show tz (bXD 1)=0 from by decide +kernel];simp
   have pg:jG (1,-p-3):=m1▸fM i1 (by decide +kernel);have d1:=cQ pn;have d2:=cQ pg;have e1:=dK ((1,0):Int×Int);have e2:=dK ((1,-p-3):Int×Int);rw[aO c1,if_pos c1,if_pos c1];simp only[i1,m1,cond_true,e1,e2,hA c1];rw[gP ⟨by decide,by decide⟩,gP ⟨k1,by omega,by omega⟩,gP ⟨by decide,by decide⟩,gP ⟨d1,d2⟩,gP ⟨by decide,by decide⟩];rfl
  ·obtain⟨⟨b1,b2⟩,a1,a2,a3,a4,a5,a6⟩:=hB c1;rw[aI c1,if_neg c1,if_neg c1];simp only[M6.bJ];rw[gP ⟨hx,⟨by omega,by omega⟩,b1,b2⟩,gP ⟨M6.aW _,M6.aW _,a1,a2,a3,⟨by omega,by omega⟩,a4,a5,a6⟩];rfl
def aH:dC:=orc2 hZ (pN .i64) sp
theorem ok:OK 152 aH:=(eI E aE (aA Ig.ok (aA Bo.ok (aA iK.ok (aA aHM.ok (aA Vs.ok (aA aLO.ok (aA aP.ok (aA bA.ok aD)))))))) func152).lP rfl spec
end bC
namespace iD
def E:=mE [(45,sK.aH),(80,aHX.aH)] 27 [] [] []
def aE:=bd f31
theorem aU:Nk E aE:=nk
theorem start a b c d e f:aF E f31 aE [D.agg [sc (bool a),ints u64 b,sc (int i64 c),sc (bool d),ints u64 e,sc (int i64 f)]]=letI B:=dv (a,b,c);letI A:=dv (d,e,f);aQ (eB (a,b,c,d,e,f)) (aQ (aJ (d,e,f)) (aC (isNeg (-A.fst)) fun g=>aC (M6.dg (-A.fst).natAbs) fun h=>aC A.snd fun i=>aQ (aJ (a,b,c)) (aC (isNeg (-B.fst)) fun j=>aC (M6.dg (-B.fst).natAbs) fun k=>aC B.snd fun l=>some [D.agg [sc (bool g),ints u64 h,sc (int i64 i),sc (bool j),ints u64 k,sc (int i64 l)],D.s (sc (int i64 0))]))):=eJ aU
def sQ(p:Int×Int):Int×Int:=(-p.1,p.2)
def sp(s:rQ):Prop×List D:=(eB s,[yM (sQ (dv (gN s))) (sQ (dv (gM s))),.s (.sc (.int .i64 0))])
theorem spec:gO E f31 aE sT sp:=by
 intro s h;have h:eB s:=h;have hL:aJ (s.1,s.2.1,s.2.2.1):=h.1;have hH:aJ (s.2.2.2.1,s.2.2.2.2.1,s.2.2.2.2.2):=h.2.1;refine(start s.1 s.2.1 s.2.2.1 s.2.2.2.1 s.2.2.2.2.1 s.2.2.2.2.2).trans ?_;simp only[aL];rw[gP h,gP hH]
 (try simp only[aL])
 rw[gP hL];rfl
def aH:dC:=orc1 sT sp
theorem ok:OK 31 aH:=(eI E aE (aA sK.ok (aA aHX.ok aD)) func31).nD rfl spec
end iD
namespace Di
def E:=mE [(31,iD.aH)] 12 [] [] []
def aE:=bd f194
theorem aU:Nk E aE:=nk
theorem start a c d e f g b:aF E f194 aE [D.agg [sc (bool a),ints u64 c,sc (int i64 d),sc (bool e),ints u64 f,sc (int i64 g)],D.s (sc (bool b))]=letI A:=(a,c,d,e,f,g);letI C:=dv (gM A);letI B:=dv (gN A);aB b (aQ (eB A) (some [D.agg [sc (bool (isNeg (-B.fst))),ints u64 (M6.dg (-B.fst).natAbs),sc (int i64 B.snd),sc (bool (isNeg (-C.fst))),ints u64 (M6.dg (-C.fst).natAbs),sc (int i64 C.snd)]])) (some [D.agg [sc (bool a),ints u64 c,sc (int i64 d),sc (bool e),ints u64 f,sc (int i64 g)]]):=eJ aU
def sp(s:rQ)(b:Bool):Prop×List D:=(eB s,[yM (bif b then iD.sQ (dv (gN s))else dv (gM s)) (bif b then iD.sQ (dv (gM s))else dv (gN s))])
theorem spec:fO E f194 aE sT pB sp:=by
 intro s b h;have h:eB s:=id h;refine(start s.1 s.2.1 s.2.2.1 s.2.2.2.1 s.2.2.2.2.1 s.2.2.2.2.2 b).trans ?_;unfold sp;cases b with
 |true =>
  show aQ _ _=_;have h':eB (s.1,s.2.1,s.2.2.1,s.2.2.2.1,s.2.2.2.2.1,s.2.2.2.2.2):=h;rw[gP h'];rfl
 |false =>
  dsimp only[cond_false];rw[h.yM]
def aH:dC:=orc2 sT pB sp
theorem ok:OK 194 aH:=(eI E aE (aA iD.ok aD) func194).lP rfl spec
end Di
namespace eR
def E:=mE [(193,Ig.aH),(153,Bo.aH),(101,aRB.aH),(100,Iw.aH),(63,iK.aH),(64,aHM.aH),(78,Vs.aH),(194,Di.aH),(195,aP.aH),(196,bA.aH)] 92 [] [] []
def aE:=bd f151
theorem aU:Nk E aE:=nk
theorem start a c d b:aF E f151 aE [D.agg [sc (bool a),ints u64 c,sc (int i64 d)],D.s (sc (int i64 b))]=letI F1:=wv (isNeg 1,M6.dg (bXD 1));letI B1:=aK 0 0;letI I1:=M6.dg B1.fst.natAbs;letI A1:=dv (false,c,d);letI X:=aJ (false,c,d)/\1<=i64.wrap (b+32)/\i64.wrap (b+32)<=70000;letI W:=dv (a,c,d);letI U:=i64.wrap (b+32);letI B:=bV.mA true A1.fst A1.snd U;letI O:=bif fN B.fst B.snd then aK B.fst B.snd else((0:Int),(0:Int));letI A:=bV.mA false A1.fst A1.snd U;letI P:=bif fN A.fst A.snd then aK A.fst A.snd else((0:Int),(0:Int));aB ((c.length:Int)==(0:Int)) (aQ ((-1000000:Int)<=(0:Int)/\(0:Int)<=(1000000:Int)) (aC (isNeg B1.fst) fun e=>aC I1 fun f=>aC B1.snd fun g=>aC (isNeg B1.fst) fun h=>aC I1 fun i=>aC B1.snd fun j=>some [D.agg [sc (bool e),ints u64 f,sc (int i64 g),sc (bool h),ints u64 i,sc (int i64 j)]])) (aQ (aJ (a,c,d)) (aC (if W.fst=0 then(0:Int)else d+(↑(bl (M6.val c)):Int)-(1:Int)) fun k=>letI Y:=i64.wrap (k-b)-3;letI C:=bif fN F1 (i64.wrap Y)then aK F1 (i64.wrap Y)else((0:Int),(0:Int));aB (decide (i64.wrap (i64.wrap ((2:Int)*k)+8)<i64.wrap ((0:Int)-b))) (aQ X (aC (isNeg O.fst) fun l=>aC (M6.dg O.fst.natAbs) fun m=>aC O.snd fun n=>aQ X (aC (isNeg P.fst) fun o=>aC (M6.dg P.fst.natAbs) fun p=>aC P.snd fun q=>aQ ((-9223372036854775808:Int)<=(1:Int)/\(1:Int)<(9223372036854775808:Int)) (aQ (kA (isNeg 1,M6.dg 1)/\(-9223372036854775808:Int)<=i64.wrap Y/\i64.wrap Y<9223372036854775808) (aC (isNeg C.fst) fun r=>aC (M6.dg C.fst.natAbs) fun s=>aC C.snd fun t=>letI G1:=dv (r,s,t);letI F:=bif bM.jZ (dv (o,p,q)) (-G1.fst,G1.snd)then bM.oT (dv (o,p,q)) (-G1.fst,G1.snd)else((0:Int),(0:Int));aQ (aJ (o,p,q)/\aJ (r,s,t)) (aC (isNeg F.fst) fun u=>aC (M6.dg F.fst.natAbs) fun v=>aC F.snd fun w=>letI Z:=(u,v,w,l,m,n);letI K:=bif a then iD.sQ (dv (gM Z))else dv (gN Z);letI I:=bif a then iD.sQ (dv (gN Z))else dv (gM Z);aQ (eB Z) (aC (isNeg I.fst) fun x=>aC (M6.dg I.fst.natAbs) fun y=>aC I.snd fun z=>aC (isNeg K.fst) fun aa=>aC (M6.dg K.fst.natAbs) fun ab=>aC K.snd fun ac=>some [D.agg [sc (bool x),ints u64 y,sc (int i64 z),sc (bool aa),ints u64 ab,sc (int i64 ac)]]))))))) (aQ (aJ (a,c,d)/\(1<=b/\b<=70000)/\((-70000:Int)<=aP.gR W/\aP.gR W<=100)/\aP.bU W b<=(2:Nat)^(aP.w1 W b).toNat) (aC (M6.dg (aP.yT W b).fst) fun ad=>letI K1:=M6.val ad;aC (M6.dg ((2:Nat)^((2:Nat)*aP.hv W b+22))) fun ae=>letI N1:=M6.val ae;aC (aP.w2 W b) fun af=>letI D1:=bA.yX K1 N1 af;letI C1:=bA.Et K1 N1 af;letI N:=M.shD false C1 U;letI G:=M.shD true D1 U;letI H1:=bA.vE G;aQ (M6.cD ad/\M6.cD ae/\bl K1<=500000/\bl N1<=500000/\(0<=af/\af<=500000)/\(1<=i64.wrap (b+32)/\i64.wrap (b+32)<=70000)/\wA false C1 U=true/\wA true D1 U=true/\jG G) (aC (isNeg N.fst) fun ag=>aC (M6.dg N.fst.natAbs) fun ah=>aC N.snd fun ai=>aC (isNeg H1.fst) fun aj=>aC (M6.dg H1.fst.natAbs) fun ak=>aC H1.snd fun al=>letI H:=(ag,ah,ai,aj,ak,al);letI T:=bif a then iD.sQ (dv (gM H))else dv (gN H);letI Q:=bif a then iD.sQ (dv (gN H))else dv (gM H);aQ (eB H) (aC (isNeg Q.fst) fun am=>aC (M6.dg Q.fst.natAbs) fun an=>aC Q.snd fun ao=>aC (isNeg T.fst) fun ap=>aC (M6.dg T.fst.natAbs) fun aq=>aC T.snd fun ar=>some [D.agg [sc (bool am),ints u64 an,sc (int i64 ao),sc (bool ap),ints u64 aq,sc (int i64 ar)]])))))):=eJ aU
def qT(x:Int×Int)(p:Int):Int×Int:=if 2*aP.gR x+8 < -p then bM.oT (shD false ((x.1.natAbs:Int),x.2) (p+32)) (-1,aP.gR x-p-3)else shD false (bA.Et (aP.yT x p).1 (2^(2*aP.hv x p+22)) (aP.w2 x p)) (p+32)
def pT(x:Int×Int)(p:Int):Int×Int:=if 2*aP.gR x+8 < -p then shD true ((x.1.natAbs:Int),x.2) (p+32)else bA.vE (shD true (bA.yX (aP.yT x p).1 (2^(2*aP.hv x p+22)) (aP.w2 x p)) (p+32))
def Mf(x:Int×Int)(p:Int):Int×Int:=if x.1=0 then(0,0)else bif isNeg x.1 then iD.sQ (pT x p)else qT x p
def Mg(x:Int×Int)(p:Int):Int×Int:=if x.1=0 then(0,0)else bif isNeg x.1 then iD.sQ (qT x p)else pT x p
def aIZ(x:dU)(p:Int):Prop:=aJ x/\(1<=p/\p<=67100)/\((dv x).1≠0->-600000<=aP.gR (dv x)/\jG (qT (dv x) p)/\jG (pT (dv x) p)/\cO (qT (dv x) p) (pT (dv x) p)<=0 /\
 (2*aP.gR (dv x)+8 < -p->wA true ((((dv x).1.natAbs:Nat):Int),(dv x).2) (p+32)=true/\wA false ((((dv x).1.natAbs:Nat):Int),(dv x).2) (p+32)=true/\jG (shD false ((((dv x).1.natAbs:Nat):Int),(dv x).2) (p+32))/\bM.jZ (shD false ((((dv x).1.natAbs:Nat):Int),(dv x).2) (p+32)) (-1,aP.gR (dv x)-p-3)=true) /\
 (¬2*aP.gR (dv x)+8 < -p->bC.Ob (dv x) p/\bC.aGZ (aP.yT (dv x) p).1 (2^(2*aP.hv (dv x) p+22)) (aP.w2 (dv x) p) (p+32)))
def sp(x:dU)(p:Int):Prop×List D:=(aIZ x p,
 [yM (Mf (dv x) p) (Mg (dv x) p)])
theorem spec:fO E f151 aE hZ (pN .i64) sp:=by
 rintro x p ⟨hx,⟨p0,p1⟩,h⟩;refine(start x.1 x.2.1 x.2.2 p).trans ?_;have hz:=M6.cS hx.Iz;have he:=hx.2.1;have ha:(dv x).1.natAbs=M6.val x.2.1:=iZ (x.1,x.2.1);have aTK:(x.1,x.2.1,x.2.2)=x:=rfl;have n0:aK 0 0=(0,0):=dO 0;have hT:(if(dv x).1=0 then 0 else x.2.2+(bl (M6.val x.2.1):Int)-1)=aP.gR (dv x):=by rw[<-ha];rfl
 have hN:isNeg (dv x).1=x.1:=hx.Dr.cells.1;have v1:wv (isNeg 1,M6.dg (bXD 1))=1:=rT 1;have k1:kA (isNeg 1,M6.dg 1):=mR (z:=1) (by decide +kernel);unfold sp Mf Mg;dsimp only
 by_cases c0:(dv x).1=0
 ·rw[cF (by have:=hz.2 (by omega);omega),gP ⟨by decide,by decide⟩,if_pos c0,if_pos c0];simp only[aL,n0];rfl
 ·obtain⟨t0,q1,q2,q3,hA,hB⟩:=h c0;have tt:=hx.uS.top;have l0:x.2.1.length≠0:=fun hc=>c0 (by have:=hz.1 hc;omega)
  have tU:aP.gR (dv x)<=1572864:=by unfold aP.gR;rw[if_neg c0];exact tt.2
  simp only[aTK,hT,aL,v1];rw[bS,if_neg c0,if_neg c0];have w1:i64.wrap (i64.wrap (2*aP.gR (dv x))+8)=2*aP.gR (dv x)+8:=by rw[wrap_i64 (n:=2*aP.gR (dv x)),wrap_i64]
  have w2:i64.wrap (0-p)=-p:=by rw[wrap_i64];omega
  have w3:i64.wrap (i64.wrap (aP.gR (dv x)-p)-3)=aP.gR (dv x)-p-3:=by rw[wrap_i64 (n:=aP.gR (dv x)-p),wrap_i64]
  have w4:i64.wrap (p+32)=p+32:=wrap_i64;simp only[w1,w2,w3,w4];rw[gP hx];have sk:eB (mQ (qT (dv x) p) (pT (dv x) p)):=qQ q1 q2 q3;have eL:=qJ (qT (dv x) p) (pT (dv x) p);have eH:=qK (qT (dv x) p) (pT (dv x) p);rw[hN];unfold mQ at sk eL eH
  by_cases c1:2*aP.gR (dv x)+8 < -p
  ·obtain⟨s1,s2,s3,s4⟩:=hA c1;have ok:aJ (false,x.2.1,x.2.2):=⟨⟨hx.1.1,fun hf=>(by cases hf),hx.1.len⟩,hx.2⟩;have vx:dv (false,x.2.1,x.2.2)=((((dv x).1.natAbs:Nat):Int),(dv x).2):=by rw[ha];rfl
   have b1:bl (bXD 1)=1:=rfl;have i1:fN 1 (aP.gR (dv x)-p-3)=true:=fP (by omega) (by rw[b1];omega);have m1:aK 1 (aP.gR (dv x)-p-3)=(1,aP.gR (dv x)-p-3):=by
    unfold aK;rw[if_neg (by decide),show tz (bXD 1)=0 from by decide +kernel];simp
   have pg:jG (1,aP.gR (dv x)-p-3):=m1▸fM i1 (by decide +kernel);have e2:=dK ((1,aP.gR (dv x)-p-3):Int×Int);have d2:=cQ pg;have d3:=cQ s3;have e3:=dK (shD false ((((dv x).1.natAbs:Nat):Int),(dv x).2) (p+32));have bHO:fN (bV.mA true (((dv x).1.natAbs:Nat):Int) (dv x).2 (p+32)).1 (bV.mA true (((dv x).1.natAbs:Nat):Int) (dv x).2 (p+32)).2=true:=s1;have bHN:fN (bV.mA false (((dv x).1.natAbs:Nat):Int) (dv x).2 (p+32)).1 (bV.mA false (((dv x).1.natAbs:Nat):Int) (dv x).2 (p+32)).2=true:=s2;have u1:aK (bV.mA true (((dv x).1.natAbs:Nat):Int) (dv x).2 (p+32)).1 (bV.mA true (((dv x).1.natAbs:Nat):Int) (dv x).2 (p+32)).2=shD true ((((dv x).1.natAbs:Nat):Int),(dv x).2) (p+32):=rfl;have u2:aK (bV.mA false (((dv x).1.natAbs:Nat):Int) (dv x).2 (p+32)).1 (bV.mA false (((dv x).1.natAbs:Nat):Int) (dv x).2 (p+32)).2=shD false ((((dv x).1.natAbs:Nat):Int),(dv x).2) (p+32):=rfl;have dL:qT (dv x) p=bM.oT (shD false ((((dv x).1.natAbs:Nat):Int),(dv x).2) (p+32)) (-1,aP.gR (dv x)-p-3):=if_pos c1;have dH:pT (dv x) p=shD true ((((dv x).1.natAbs:Nat):Int),(dv x).2) (p+32):=if_pos c1;rw[aO c1];simp only[vx,bHO,bHN,u1,u2,i1,m1,cond_true,e2,e3,s4];rw[gP ⟨ok,by omega,by omega⟩,gP ⟨ok,by omega,by omega⟩,gP ⟨by decide,by decide⟩,gP ⟨k1,by omega,by omega⟩,gP ⟨d3,d2⟩,<-dL,<-dH,gP sk,eL,eH];rfl
  ·obtain⟨⟨b1,b2⟩,a1,a2,a3,a4,a5,a6⟩:=hB c1;have dL:qT (dv x) p=shD false (bA.Et (aP.yT (dv x) p).1 (2^(2*aP.hv (dv x) p+22)) (aP.w2 (dv x) p)) (p+32):=if_neg c1;have dH:pT (dv x) p=bA.vE (shD true (bA.yX (aP.yT (dv x) p).1 (2^(2*aP.hv (dv x) p+22)) (aP.w2 (dv x) p)) (p+32)):=if_neg c1;rw[aI c1];simp only[M6.bJ];rw[gP ⟨hx,⟨by omega,by omega⟩,b1,b2⟩,gP ⟨M6.aW _,M6.aW _,a1,a2,a3,⟨by omega,by omega⟩,a4,a5,a6⟩,<-dL,<-dH,gP sk,eL,eH];rfl
def aH:dC:=orc2 hZ (pN .i64) sp
theorem ok:OK 151 aH:=(eI E aE (aA Ig.ok (aA Bo.ok (aA aRB.ok (aA Iw.ok (aA iK.ok (aA aHM.ok (aA Vs.ok (aA Di.ok (aA aP.ok (aA bA.ok aD)))))))))) func151).lP rfl spec
end eR
end W
namespace R
def Ky(F D X p q p' q':Nat):Bool :=
 bNE 9007199254740992 q'&&((bNC (p*q') (p'*q+1)||bNC (p'*q) (p*q'+1)) &&
 ((bNE (p*(F+1)+D) (q*X)&&bNE (q'*X) (p'*F))||(bNE (q*X+D) (p*F)&&bNE (p'*(F+1)) (q'*X))))
def aRT(F D X:Nat)(f:Nat):Nat->Nat->Nat->Nat->Nat->Nat->Bool:=Nat.rec (motive:=fun _=>Nat->Nat->Nat->Nat->Nat->Nat->Bool) (fun _ _ _ _ _ _=>false)
 (fun _ ih a b p q p' q'=>cond (bNE 9007199254740992 q') (Ky F D X p q p' q') (fF (a/b) fun t=>fF (a-t*b) fun r=>fF (t*p'+p) fun p2=>fF (t*q'+q) fun q2=>ih b r p' q' p2 q2)) f
def aKO(F D:Nat)(n:Nat):Nat->Bool:=Nat.rec (motive:=fun _=>Nat->Bool) (fun _=>true) (fun _ ih X=>aRT F D X 80 X F 0 1 1 0&&fF (2*X) fun X'=>ih X') n
def aWF(w n:Nat):Bool :=
 Prod.rec (motive:=fun _=>Bool) (fun t5 s5=>Prod.rec (motive:=fun _=>Bool) (fun t239 kE =>
  bNE (4*kE) (16*s5)&&(bNC t5 0&&(bNC t239 0 &&
  fF ((16*s5-4*kE)/2^64) fun F=>fF (2^(w-64-62)) fun D=>fF (2^(w-64-53)) fun X =>
  bNC (((16*s5-4*kE)+2^40)/2^64) F&&(bNC (((16*s5-4*kE)-2^40)/2^64) F&&aKO F D n X))))
  (Sx 239 w 10 10)) (Sx 5 w 20 20)
theorem bIG{L L' s m k p q p' q' P X:Rat}(hL:L=q*X-p*P)(aXY:L'=q'*X-p'*P)(hs:s*s=1)(aET:p*q'-p'*q=s):m*X-k*P=s*(k*q'-m*p')*L+s*(m*p-k*q)*L':=by
 subst hL;subst aXY;have e1:s*(k*q'-m*p')*(q*X-p*P)+s*(m*p-k*q)*(q'*X-p'*P)=s*(p*q'-p'*q)*(m*X-k*P):=by grind
 rw[e1,aET,hs];grind
theorem Pz{a b:Bool}(h:(a||b)=true):a=true\/b=true:=by simpa using h
theorem rY{a:Int}(h:0<a):(1:Rat)<=(a:Rat):=by exact_mod_cast h
theorem aKH {F D X p q p' q' : Nat} (h : Ky F D X p q p' q' = true) {P : Rat} (h1 : (F : Rat) ≤ P) (h2 : P ≤ (F : Rat) + 1) {m k : Int} (hm : 0 < m) (aUO : m < 9007199254740992) : (D : Rat) ≤ ab ((m : Rat) * (X : Rat) - (k : Rat) * P) := by
  unfold Ky at h
  obtain ⟨c1, h⟩ := eF h
  obtain ⟨c2, c3⟩ := eF h
  have c1 := bOZ c1
  obtain ⟨s, hs, aET⟩ : ∃ s : Int, s * s = 1 ∧ (p : Int) * q' - p' * q = s := by
    rcases Pz c2 with h | h
    · have := bNP h
      exact ⟨1, rfl, by have : (p : Int) * q' = p' * q + 1 := by exact_mod_cast this
                        omega⟩
    · have := bNP h
      exact ⟨-1, rfl, by have : (p' : Int) * q = p * q' + 1 := by exact_mod_cast this
                         omega⟩
  obtain ⟨a, ha⟩ : ∃ a : Int, a = s * (k * q' - m * p') := ⟨_, rfl⟩
  obtain ⟨b, hb⟩ : ∃ b : Int, b = s * (m * p - k * q) := ⟨_, rfl⟩
  have hmab : m = a * q + b * q' := by
    have : a * q + b * q' = s * (p * q' - p' * q) * m := by rw [ha, hb]; grind
    rw [this, aET, hs]; omega
  obtain ⟨L, hL⟩ : ∃ L : Rat, L = (q : Rat) * X - (p : Rat) * P := ⟨_, rfl⟩
  obtain ⟨L', aXY⟩ : ∃ L' : Rat, L' = (q' : Rat) * X - (p' : Rat) * P := ⟨_, rfl⟩
  have bEY : (s : Rat) * (s : Rat) = 1 := by exact_mod_cast hs
  have Zy : (p : Rat) * q' - p' * q = (s : Rat) := by
    have := congrArg (Int.cast : Int → Rat) aET
    rw [Rat.intCast_sub, bXW, bXW, bXT, bXT, bXT, bXT] at this
    exact this
  have aOW := bIG (m := (m : Rat)) (k := (k : Rat)) hL aXY bEY Zy
  have bGI : (s : Rat) * ((k : Rat) * q' - m * p') = (a : Rat) := by
    rw [ha]; push_cast; rfl
  have bGH : (s : Rat) * ((m : Rat) * p - k * q) = (b : Rat) := by
    rw [hb]; push_cast; rfl
  rw [bGI, bGH] at aOW
  rw [aOW]
  have aIH : (0 : Int) ≤ q := by omega
  have hq'0 : (9007199254740992 : Int) ≤ q' := by omega
  have Xo : (0 : Rat) ≤ (p : Rat) := by exact_mod_cast bTF p
  have aUC : (0 : Rat) ≤ (p' : Rat) := by exact_mod_cast bTF p'
  have bAB : ((D : Rat) ≤ L ∧ L' ≤ 0) ∨ ((D : Rat) ≤ -L ∧ 0 ≤ L') := by
    rcases Pz c3 with h | h
    · obtain ⟨d1, d2⟩ := eF h
      have d1 : ((p * (F + 1) + D : Nat) : Rat) ≤ ((q * X : Nat) : Rat) := by exact_mod_cast bOZ d1
      have d2 : ((q' * X : Nat) : Rat) ≤ ((p' * F : Nat) : Rat) := by exact_mod_cast bOZ d2
      push_cast at d1 d2
      have := aG Xo (show 0 ≤ (F : Rat) + 1 - P by grind)
      have := aG aUC (show 0 ≤ P - (F : Rat) by grind)
      left
      constructor <;> grind
    · obtain ⟨d1, d2⟩ := eF h
      have d1 : ((q * X + D : Nat) : Rat) ≤ ((p * F : Nat) : Rat) := by exact_mod_cast bOZ d1
      have d2 : ((p' * (F + 1) : Nat) : Rat) ≤ ((q' * X : Nat) : Rat) := by exact_mod_cast bOZ d2
      push_cast at d1 d2
      have := aG Xo (show 0 ≤ P - (F : Rat) by grind)
      have := aG aUC (show 0 ≤ (F : Rat) + 1 - P by grind)
      right
      constructor <;> grind
  have hD0 : (0 : Rat) ≤ (D : Rat) := by exact_mod_cast bTF D
  clear aOW bGI bGH Zy bEY hL aXY ha hb aET hs c2 c3
  rcases Int.lt_trichotomy b 0 with hb | hb | hb
  · have aKG : 0 < a := by
      refine Int.not_le.1 fun hn => ?_
      have := bZB (show 0 ≤ -a by omega) aIH
      have := bZB (show 0 ≤ -b by omega) (show (0 : Int) ≤ q' by omega)
      rw [bWR] at *
      omega
    have r1 := rY aKG
    have r2 := rY (show 0 < -b by omega)
    have r2 : (1 : Rat) ≤ -(b : Rat) := by rw [← bYC]; exact r2
    rcases bAB with ⟨g1, g2⟩ | ⟨g1, g2⟩
    · have := aG (show 0 ≤ (a : Rat) - 1 by grind) (show 0 ≤ L by grind)
      have := aG (show 0 ≤ -(b : Rat) by grind) (show 0 ≤ -L' by grind)
      have := Ao ((a : Rat) * L + (b : Rat) * L')
      grind
    · have := aG (show 0 ≤ (a : Rat) - 1 by grind) (show 0 ≤ -L by grind)
      have := aG (show 0 ≤ -(b : Rat) by grind) (show 0 ≤ L' by grind)
      have := mW ((a : Rat) * L + (b : Rat) * L')
      grind
  · subst hb
    have aKG : 0 < a := by
      refine Int.not_le.1 fun hn => ?_
      have := bZB (show 0 ≤ -a by omega) aIH
      rw [bWR] at *
      omega
    have r1 := rY aKG
    have z : ((0 : Int) : Rat) = 0 := by norm_cast
    rw [z]
    rcases bAB with ⟨g1, g2⟩ | ⟨g1, g2⟩
    · have := aG (show 0 ≤ (a : Rat) - 1 by grind) (show 0 ≤ L by grind)
      have := Ao ((a : Rat) * L + 0 * L')
      grind
    · have := aG (show 0 ≤ (a : Rat) - 1 by grind) (show 0 ≤ -L by grind)
      have := mW ((a : Rat) * L + 0 * L')
      grind
  · have aKG : a < 0 := by
      refine Int.not_le.1 fun hn => ?_
      have := bZB hn aIH
      have := bPL (show 1 ≤ b by omega) (show (0 : Int) ≤ q' by omega)
      omega
    have r1 := rY (show 0 < -a by omega)
    have r1 : (1 : Rat) ≤ -(a : Rat) := by rw [← bYC]; exact r1
    have r2 := rY hb
    rcases bAB with ⟨g1, g2⟩ | ⟨g1, g2⟩
    · have := aG (show 0 ≤ -(a : Rat) - 1 by grind) (show 0 ≤ L by grind)
      have := aG (show 0 ≤ (b : Rat) by grind) (show 0 ≤ -L' by grind)
      have := mW ((a : Rat) * L + (b : Rat) * L')
      grind
    · have := aG (show 0 ≤ -(a : Rat) - 1 by grind) (show 0 ≤ -L by grind)
      have := aG (show 0 ≤ (b : Rat) by grind) (show 0 ≤ L' by grind)
      have := Ao ((a : Rat) * L + (b : Rat) * L')
      grind
theorem aPT{F D X:Nat}:∀(f a b p q p' q':Nat),aRT F D X f a b p q p' q'=true->∃p q p' q',Ky F D X p q p' q'=true:=by
 intro f
 induction f with
 |zero=>intro a b p q p' q' h;exact absurd h (by simp[aRT])
 |succ f ih =>
  intro a b p q p' q' h;have e:aRT F D X (f+1) a b p q p' q'=cond (bNE 9007199254740992 q') (Ky F D X p q p' q') (fF (a/b) fun t=>fF (a-t*b) fun r=>fF (t*p'+p) fun p2=>fF (t*q'+q) fun q2=>aRT F D X f b r p' q' p2 q2):=rfl;rw[e]at h;cases hc:bNE 9007199254740992 q' with
  |true=>rw[hc]at h;exact⟨_,_,_,_,h⟩
  |false =>
   rw[hc,cond_false,dY,dY,dY,dY]at h;exact ih _ _ _ _ _ _ h
theorem aKN{F D:Nat}:∀(n X:Nat),aKO F D n X=true->∀i,i<n->∃p q p' q',Ky F D (2^i*X) p q p' q'=true:=by
 intro n
 induction n with
 |zero=>intro X _ i hi;omega
 |succ n ih =>
  intro X h i hi;have e:aKO F D (n+1) X=(aRT F D X 80 X F 0 1 1 0&&fF (2*X) fun X'=>aKO F D n X'):=rfl;rw[e,dY]at h;obtain⟨h1,h2⟩:=eF h;cases i with
  |zero =>
   rw[Nat.pow_zero,bRE];exact aPT _ _ _ _ _ _ _ h1
  |succ i =>
   have:=ih _ h2 i (by omega);rw[bSA,bSF];exact this
theorem bCW:aWF 1464 1030=true:=by kernel_rfl
theorem aJQ{s5 kE:Nat}{W a b:Rat}(hle:4*kE<=16*s5)(h5:ab ((s5:Rat)-W*Rs 5)<=a)(Ng:ab ((kE:Rat)-W*Rs 239)<=b):ab (((16*s5-4*kE:Nat):Rat)-W*pi)<=16*a+4*b:=by
 have hc:((16*s5-4*kE:Nat):Rat)+4*(kE:Rat)=16*(s5:Rat):=by exact_mod_cast(show 16*s5-4*kE+4*kE=16*s5 by omega)
 unfold pi;rw[cT]at *;grind
theorem aSX{m k:Int}{i:Nat}(hi:i<1030)(hm:0<m)(aUO:m<9007199254740992):1/4611686018427387904<=ab ((m:Rat)*((2^i:Nat):Rat)/9007199254740992-(k:Rat)*pi):=by
 have h:=bCW;unfold aWF at h;have h5:=Df (n:=5) (by omega) 1464 20 20 (by omega);have Ng:=Df (n:=239) (by omega) 1464 10 10 (by omega);generalize hw:(1464:Nat)=w at *;generalize Sx 5 w 20 20=A at *;generalize Sx 239 w 10 10=B at *;obtain⟨t5,s5⟩:=A;obtain⟨t239,kE⟩:=B;dsimp only at *;obtain⟨bHB,h⟩:=eF h;obtain⟨z5,h⟩:=eF h;obtain⟨aNJ,h⟩:=eF h;rw[dY,dY,dY]at h;obtain⟨q1,h⟩:=eF h;obtain⟨q2,h⟩:=eF h;have q1:=bNP q1;have q2:=bNP q2;have h5:=h5 (bNP z5);have Ng:=Ng (bNP aNJ);obtain⟨p,q,p',q',hg⟩:=aKN _ _ h i hi;have aFB:ab (((16*s5-4*kE:Nat):Rat)-((2^w:Nat):Rat)*pi)<=524288:=by
  have:=aJQ (bOZ bHB) h5 Ng;refine bSH this ?_;have n1:((2*(20*20):Nat):Rat)=800:=by norm_cast
  have n2:((2*(10*10):Nat):Rat)=200:=by norm_cast
  rw[n1,n2];grind
 generalize 16*s5-4*kE=P at *;have aGA:=tP w (by omega);have lo:((P/2^64:Nat):Rat)<=((2^(w-64):Nat):Rat)*pi:=by
  have:2^64*(P/2^64)<=P-2^40:=by
   have:=Nat.mul_div_le (P-2^40) (2^64);rwa [q2]at this
  have hz:P/2^64=0\/2^64*(P/2^64)+2^40<=P:=by omega
  rcases hz with hz |h2
  ·rw[hz];have h3:(0:Rat)<=((2^(w-64):Nat):Rat):=by exact_mod_cast bTF _
   have:=aG h3 (bSJ (show 0<pi from by have:=iO.1;grind));have z:((0:Nat):Rat)=0:=by norm_cast
   rw[z];exact this
  ·have h3:((2^64:Nat):Rat)*((P/2^64:Nat):Rat)+((2^40:Nat):Rat)<=(P:Rat):=by exact_mod_cast h2
   rw[aGA,bUB,cT]at aFB;have n1:((2^64:Nat):Rat)=18446744073709551616:=by norm_cast
   have n2:((2^40:Nat):Rat)=1099511627776:=by norm_cast
   rw[n1]at aFB h3;rw[n2]at h3;refine cN (q:=18446744073709551616) (by grind) ?_;generalize ((2^(w-64):Nat):Rat)=W at *;grind
 have Xp:((2^(w-64):Nat):Rat)*pi<=((P/2^64:Nat):Rat)+1:=by
  have:P+2^40<2^64*(P/2^64+1):=by
   have:=Nat.lt_mul_div_succ (P+2^40) (show 0<2^64 by omega);rwa [q1]at this
  have h3:(P:Rat)+((2^40:Nat):Rat)<((2^64:Nat):Rat)*(((P/2^64:Nat):Rat)+1):=by exact_mod_cast this
  rw[aGA,bUB,cT]at aFB;have n1:((2^64:Nat):Rat)=18446744073709551616:=by norm_cast
  have n2:((2^40:Nat):Rat)=1099511627776:=by norm_cast
  rw[n1]at aFB h3;rw[n2]at h3;refine cN (q:=18446744073709551616) (by grind) ?_;generalize ((2^(w-64):Nat):Rat)=W at *;grind
 have aXM:=aKH hg lo Xp (k:=k) hm aUO;have eD:((2^(w-64):Nat):Rat)=((2^(w-64-62):Nat):Rat)*4611686018427387904:=by
  have:2^(w-64)=2^(w-64-62)*2^62:=by rw[<-bSD];congr 1;omega
  rw[this,bUB];congr 1
 have eX:((2^(w-64):Nat):Rat)=((2^(w-64-53):Nat):Rat)*9007199254740992:=by
  have:2^(w-64)=2^(w-64-53)*2^53:=by rw[<-bSD];congr 1;omega
  rw[this,bUB];congr 1
 have aEZ:(0:Rat)<((2^(w-64):Nat):Rat):=by exact_mod_cast cI
 have hWp2:(0:Rat)<((2^(w-64-62):Nat):Rat):=by exact_mod_cast cI
 have e:(m:Rat)*((2^i*2^(w-64-53):Nat):Rat)-(k:Rat)*(((2^(w-64):Nat):Rat)*pi)=((2^(w-64):Nat):Rat)*((m:Rat)*((2^i:Nat):Rat)/9007199254740992-(k:Rat)*pi):=by
  rw[bUB,eX];grind
 rw[e,fG,bG (bSJ aEZ)]at aXM;refine cN aEZ ?_;rw[eD]at aXM ⊢;grind
end R
namespace R
def bDH(x:Rat):Prop:=∃m e:Int,0<m/\m<9007199254740992/\-53<=e/\e<=971/\(x=(m:Rat)*pz e\/x=-((m:Rat)*pz e))
def aWN(x:Rat)(k:Int):Prop:=ab (x-(k:Rat)*(pi/2))<=pi/4+1/36893488147419103232
def Fit(x:Rat):Prop:=bDH x\/ab x<=3/4
theorem aGJ(r:Rat):cs (ab r)=cs r:=by
 unfold ab;split
 ·rfl
 ·rw[Ny]
theorem aCP{r:Rat}(h:ab r<=1):sn (ab r)=ab (sn r):=by
 by_cases h0:0<=r
 ·rw[bG h0]at *;rw[bG (Gg h0 h)]
 ·have e:ab r=-r:=by unfold ab;rw[if_neg h0]
  rw[e]at h;rw[e,<-fW (sn r),<-Ca,bG (Gg (by grind) h)]
theorem Lc{r:Rat}(h:ab r<=4/5):17/25<=cs r/\cs r<=1:=by
 have h0:=aN r;obtain⟨c1,c2⟩:=Ht h0 (by grind);have m:=cC h0 h h0 h;have m2:=aG h0 h0;have m3:=aG m2 (show 0<=6-ab r*ab r by grind);rw[aGJ]at c1 c2;generalize ab r=a at *;constructor <;> grind
theorem Wl{r:Rat}(h0:0<=r)(h:r<=4/5):4/5*r<=sn r/\sn r<=r:=by
 have h1:r<=1:=by grind
 refine⟨?_,Wk h0 h1⟩;have c1:=(wL h0 h1).1;have m:=cC h0 h h0 h;have m3:=aG h0 (show 0<=16/25-r*r by grind);grind
theorem aMA{a b:Int}(h:a<b):pz a<pz b:=by
 have h1:=dR (show a+1<=b by omega);have h2:=dJ a;rw[jJ]at h1;grind
theorem Zd{a b:Int}:pz a<=pz b↔a<=b:=by
 constructor
 ·intro h;refine Int.not_lt.1 fun hn=>?_
  have:=aMA hn;grind
 ·exact dR
theorem xX{a b:Int}:pz a<pz b↔a<b:=by
 constructor
 ·intro h;refine Int.not_le.1 fun hn=>?_
  have:=dR hn;grind
 ·exact aMA
theorem aNY:pz 1=2:=by rw[show(1:Int)=0+1 by rfl,jJ,fS];grind
theorem pU(a:Int):pz (a-1)*2=pz a:=by
 have:=jJ (a-1);rw[show a-1+1=a by omega]at this;grind
theorem fJ(a:Int){n:Nat}{c:Rat}(hc:((2^n:Nat):Rat)=c):pz (a-(n:Int))*c=pz a:=by
 have:=dW (a-(n:Int)) n;rw[show a-(n:Int)+(n:Int)=a by omega,hc]at this;exact this.symm
end R
namespace R
open W.TSums
theorem Gb{f:Nat->Rat}:∀{n:Nat},(∀k,k<n->f k=0)->sum f n=0
 |0,_=>rfl
 |n+1,h=>by rw[cZ,Gb fun k hk=>h k (by omega),h n (by omega)];grind
theorem Kj(g:Nat->Rat)(k f:Nat):sum (fun i=>g (k+i)) (f+1)=g k+sum (fun i=>g (k+1+i)) f:=by
 rw[bTD f 1,jB];have e:(fun i=>g (k+(1+i)))=fun i=>g (k+1+i):=funext fun i=>by rw[Nat.add_assoc]
 rw[e,cZ];have z:sum (fun i=>g (k+i)) 0=0:=rfl;rw[z,bOC];grind
def gC(u W i:Nat):Rat:=cc i*(sq u W i:Rat)
def gS(u W i:Nat):Rat:=ss i*(sq u W i:Rat)
theorem zZ{u W:Nat}(hu:u<=W):∀f k a b c d,c<=a->d<=b->(k%4=1\/k%4=2->c+sq u W k<=a)->(k%4=2\/k%4=3->d+sq u W k<=b) ->
  (tay u W f k a b c d).2.2.1<=(tay u W f k a b c d).1/\(tay u W f k a b c d).2.2.2<=(tay u W f k a b c d).2.1 /\
  ((tay u W f k a b c d).1:Rat)-((tay u W f k a b c d).2.2.1:Rat)=(a:Rat)-(c:Rat)+sum (fun i=>gC u W (k+i)) f /\
  ((tay u W f k a b c d).2.1:Rat)-((tay u W f k a b c d).2.2.2:Rat)=(b:Rat)-(d:Rat)+sum (fun i=>gS u W (k+i)) f
 |0,k,a,b,c,d,h1,h2,_,_=>by
  have z1:sum (fun i=>gC u W (k+i)) 0=0:=rfl;have z2:sum (fun i=>gS u W (k+i)) 0=0:=rfl;refine⟨h1,h2,?_,?_⟩
  ·show(a:Rat)-(c:Rat)=_;rw[z1];grind
  ·show(b:Rat)-(d:Rat)=_;rw[z2];grind
 |f+1,k,a,b,c,d,h1,h2,h3,h4=>by
  have hs:=Gc hu k;have hm:k%4<4:=bPJ _ (by decide);unfold tay
  by_cases hz:sq u W k=0
  ·have za:=Pp hz;rw[if_pos hz];have z1:sum (fun i=>gC u W (k+i)) (f+1)=0:=Gb fun i _=>by unfold gC;rw[za];simp
   have z2:sum (fun i=>gS u W (k+i)) (f+1)=0:=Gb fun i _=>by unfold gS;rw[za];simp
   rw[z1,z2];refine⟨h1,h2,?_,?_⟩
   ·show(a:Rat)-(c:Rat)=_;grind
   ·show(b:Rat)-(d:Rat)=_;grind
  ·rw[if_neg hz,Kj (gC u W) k f,Kj (gS u W) k f];have e4:(k+1)%4=(k%4+1)%4:=by omega
   by_cases c0:k%4=0
   ·rw[if_pos c0];obtain⟨r1,r2,r3,r4⟩:=zZ hu f (k+1) (a+sq u W k) b c d (by omega) h2 (fun _=>by omega) (fun h=>by omega);refine⟨r1,r2,?_,?_⟩
    ·rw[r3,bXN];have:gC u W k=(sq u W k:Rat):=by unfold gC cc;rw[if_pos c0];grind
     rw[this];grind
    ·rw[r4];have:gS u W k=0:=by unfold gS ss;rw[aX,aX];grind
     rw[this];grind
   ·rw[if_neg c0]
    by_cases c1:k%4=1
    ·rw[if_pos c1];obtain⟨r1,r2,r3,r4⟩:=zZ hu f (k+1) a (b+sq u W k) c d h1 (by omega) (fun _=>by have:=h3 (Or.inl c1);omega) (fun _=>by omega);refine⟨r1,r2,?_,?_⟩
     ·rw[r3];have:gC u W k=0:=by unfold gC cc;rw[if_neg c0,aX];grind
      rw[this];grind
     ·rw[r4,bXN];have:gS u W k=(sq u W k:Rat):=by unfold gS ss;rw[if_pos c1];grind
      rw[this];grind
    ·rw[if_neg c1]
     by_cases c2:k%4=2
     ·rw[if_pos c2];have g1:=h3 (Or.inr c2);have g2:=h4 (Or.inl c2);obtain⟨r1,r2,r3,r4⟩:=zZ hu f (k+1) a b (c+sq u W k) d (by omega) h2 (fun h=>by omega) (fun _=>by omega);refine⟨r1,r2,?_,?_⟩
      ·rw[r3,bXN];have:gC u W k=-(sq u W k:Rat):=by unfold gC cc;rw[if_neg c0,if_pos c2];grind
       rw[this];grind
      ·rw[r4];have:gS u W k=0:=by unfold gS ss;rw[if_neg c1,aX];grind
       rw[this];grind
     ·rw[if_neg c2];have g2:=h4 (Or.inr (by omega));obtain⟨r1,r2,r3,r4⟩:=zZ hu f (k+1) a b c (d+sq u W k) h1 (by omega) (fun h=>by omega) (fun h=>by omega);refine⟨r1,r2,?_,?_⟩
      ·rw[r3];have:gC u W k=0:=by unfold gC cc;rw[if_neg c0,if_neg c2];grind
       rw[this];grind
      ·rw[r4,bXN];have:gS u W k=-(sq u W k:Rat):=by unfold gS ss;rw[if_neg c1,aT];grind
       rw[this];grind
theorem Da{x y:Nat}(h:y<=x):((x-y:Nat):Rat)=(x:Rat)-(y:Rat):=by
 have:((x-y:Nat):Rat)+(y:Rat)=(x:Rat):=by exact_mod_cast(show x-y+y=x by omega)
 grind
theorem aCK{u w:Nat}(hu:u<=2^w):(Tc u w:Rat)=sum (fun k=>ss k*(sq u (2^w) k:Rat)) (w+1)/\(Td u w:Rat)=sum (fun k=>cc k*(sq u (2^w) k:Rat)) (w+1):=by
 obtain⟨r1,r2,r3,r4⟩:=zZ hu (w+1) 0 0 0 0 0 (bNB _) (bNB _) (fun h=>by omega) (fun h=>by omega);unfold Tc Td;rw[Da r1,Da r2,r3,r4];have z:((0:Nat):Rat)=0:=by norm_cast
 have e1:sum (fun i=>gC u (2^w) (0+i)) (w+1)=sum (fun k=>cc k*(sq u (2^w) k:Rat)) (w+1):=iL fun k _=>by rw[bND];rfl
 have e2:sum (fun i=>gS u (2^w) (0+i)) (w+1)=sum (fun k=>ss k*(sq u (2^w) k:Rat)) (w+1):=iL fun k _=>by rw[bND];rfl
 rw[e1,e2,z];constructor <;> grind
end R
namespace M
open Go AI W
theorem Sc(p:Int×Int):R.ab (R.qz p)=(p.1.natAbs:Rat)*R.pz p.2:=by
 unfold R.qz;rw[R.fG,R.bG (bSJ (R.dJ p.2))];congr 1;unfold R.ab
 by_cases hz:0<=p.1
 ·rw[if_pos (by exact_mod_cast hz),<-bXT];congr 1;omega
 ·rw[if_neg (by intro hc;exact hz (by exact_mod_cast hc)),<-bXT,<-bYC];congr 1;omega
theorem Qq(w:Int)(hw:65<=w):∀f h:Nat,4<=h->(h=4\/16*(h:Int)-16<w)->THalvings.hlv w f h=4\/16*(THalvings.hlv w f h:Int)-16<w
 |0,h,_,hh=>hh
 |f+1,h,h4,hh=>by
  unfold THalvings.hlv;split
  ·rename_i hc;refine Qq w hw f (h+1) (by omega) (Or.inr ?_);have:4*(h:Int)*h>=4*4*h:=by
    have:=bPL (show(4*4:Int)<=4*h by omega) (show(0:Int)<=h by omega);omega
   omega
  ·exact hh
theorem Az{x:Int×Int}{p:Int}(h0:x.1≠0)(h1:bB x<=0)(ht:-1200<=bB x)(hp:1<=p/\p<=67100) :
  aP.gR x=bB x/\aP.w0 x p=p+80-bB x/\4<=aP.hv x p/\aP.hv x p<=204/\(aP.hv x p:Int)+50<=p+80-bB x/\aP.w1 x p=p+80-bB x+2*(aP.hv x p:Nat)/\aP.w2 x p=p+80-bB x+3*(aP.hv x p:Nat):=by
 have e1:aP.gR x=bB x:=by unfold aP.gR bB;rw[if_neg h0]
 have e2:aP.w0 x p=p+80-bB x:=by
  unfold aP.w0;rw[e1];split <;> omega
 obtain⟨h3,h4⟩:=aP.Uf (aP.w0 x p) 200 4;have h5:=Qq (aP.w0 x p) (by omega) 200 4 (by omega) (Or.inl rfl);have eh:THalvings.hlv (aP.w0 x p) 200 4=aP.hv x p:=rfl;rw[eh]at h3 h4 h5;refine⟨e1,e2,h4,h3,?_,?_,?_⟩
 ·omega
 ·unfold aP.w1;omega
 ·unfold aP.w2 aP.w1;omega
theorem aKK(x:Int×Int)(n:Int):(sJ.aIL x n:Rat)<=R.pz n*R.ab (R.qz x)/\R.pz n*R.ab (R.qz x)<(sJ.aIL x n:Rat)+1:=by
 rw[Sc];have e:R.pz n*((x.1.natAbs:Rat)*R.pz x.2)=(x.1.natAbs:Rat)*R.pz (x.2+n):=by rw[R.mH];grind
 rw[e];unfold sJ.aIL;split
 ·rename_i h;obtain⟨k,hk⟩:=bSE h;rw[hk,R.oH,bQX,bUB];constructor <;> grind
 ·rename_i h;obtain⟨k,hk⟩:=bSE (show 0<=-(x.2+n) by omega);have hp:0<2^k:=bQA (by decide);obtain⟨d1,d2⟩:=R.uV x.1.natAbs hp;rw[hk,bQX,show x.2+n=-(k:Int) by omega,R.wR];have h2:=R.Nc k;have h3:=R.tI k;have m1:=R.aG (bSJ h3) (show 0<=(x.1.natAbs:Rat)-((2^k:Nat):Rat)*((x.1.natAbs/2^k:Nat):Rat) by grind);have m2:=bSV h3 (show 0<((2^k:Nat):Rat)*((x.1.natAbs/2^k:Nat):Rat)+((2^k:Nat):Rat)-(x.1.natAbs:Rat) by grind);generalize ((x.1.natAbs/2^k:Nat):Rat)=q at *;generalize ((2^k:Nat):Rat)=K at *;generalize (x.1.natAbs:Rat)=m at *;generalize R.hf k=g at *;have e1:g*(K*q)=q:=by rw[<-bYL,h2];grind
  constructor <;> grind
theorem Rq{x:Int×Int}{p:Int}(h0:x.1≠0)(hT:R.ab (R.qz x)<=1)(h1:bB x<=0)(ht:-1200<=bB x)(hp:1<=p/\p<=67100) :
  aP.bU x p<=2^(aP.w1 x p).toNat /\
  R.ab (((aP.yT x p).1:Rat)-R.pz (aP.w2 x p)*R.sn (R.ab (R.qz x)))<=R.pz (2*(aP.hv x p:Nat)+18) /\
  R.ab (((aP.yT x p).2:Rat)-R.pz (aP.w2 x p)*R.cs (R.ab (R.qz x)))<=R.pz (2*(aP.hv x p:Nat)+18):=by
 obtain⟨e1,e2,h4,h5,h6,bCQ,bCP⟩:=Az h0 h1 ht hp;obtain⟨u1,u2⟩:=aKK x (aP.w1 x p);have hT0:=R.aN (R.qz x);unfold aP.yT;have eU:sJ.aIL x (aP.w1 x p)=aP.bU x p:=rfl;rw[eU]at u1 u2;generalize aP.bU x p=u at *;generalize aP.hv x p=h at *;generalize R.ab (R.qz x)=T at *;obtain⟨n,hn⟩:=bSE (show 0<=aP.w1 x p by omega);have aUK:aP.w2 x p=((n+h:Nat):Int):=by omega
 rw[hn,R.oH]at u1 u2;rw[hn,aUK,R.oH,bQX,bQX];have hu:u<=2^n:=by
  have hW:(0:Rat)<=((2^n:Nat):Rat):=by exact_mod_cast bTF _
  have:=R.aG hW (show 0<=1-T by grind);have:(u:Rat)<=((2^n:Nat):Rat):=by grind
  exact_mod_cast this
 have Mx:u<=2^(n+h):=bNX hu (bQB (by decide) (by omega));obtain⟨s1,s2⟩:=R.aCK Mx;have r:=R.aLB hT0 hT u1 u2 (h:=h) (by omega) (by omega) (by omega) s1 s2;have b:((4^h*(2*(n+h)+10):Nat):Rat)<=R.pz (2*(h:Nat)+18):=by
  rw[show 2*(h:Int)+18=((2*h+18:Nat):Int) by omega,R.oH];have:4^h*(2*(n+h)+10)<=2^(2*h+18):=by
   rw[bSD,<-R.Hn];exact bPP _ (by have:(2:Nat)^18=262144:=rfl;omega)
  exact_mod_cast this
 exact⟨hu,bSH r.1 b,bSH r.2 b⟩
end M
namespace M
open Go AI W
theorem Ab(up:Bool)(p:Int×Int)(n:Nat):bl (shD up p n).1.natAbs<=n+1:=by
 unfold shD bV.mA;refine bNX (qV _ _) ?_;split
 ·dsimp only;omega
 ·rename_i h;dsimp only;exact Ur up p.1 _ n (by omega)
theorem Bv{p:Int×Int}{E:Int}(h0:p.1≠0)(h:R.ab (R.qz p)<R.pz E):bB p<E:=by
 have:=(rU h0).1;refine R.xX.1 ?_;grind
theorem Bw{p:Int×Int}{E:Int}(h0:p.1≠0)(h:R.pz E<=R.ab (R.qz p)):E<=bB p:=by
 have:=(rU h0).2;have:R.pz E<R.pz (bB p+1):=by grind
 have:=R.xX.1 this;omega
theorem zY{p:Int×Int}{E:Int}(h0:p.1≠0)(h:R.ab (R.qz p)<=R.pz E):bB p<=E:=by
 have:=(rU h0).1;refine R.Zd.1 ?_;grind
theorem aLY{p:Int×Int}(h:p.1≠0):R.qz p≠0:=by
 intro hz;have h1:=(rU h).1;have h2:=R.dJ (bB p);rw[hz,R.bG (by grind)]at h1;grind
theorem Kt{p:Int×Int}(h:R.qz p≠0):p.1≠0:=fun hz=>h (R.nH hz)
theorem zC{p:Int×Int}:0<R.qz p↔0<p.1:=by
 have h:=R.dJ p.2;unfold R.qz;constructor
 ·intro hp;refine Int.not_le.1 fun hn=>?_
  have c:(p.1:Rat)<=0:=by exact_mod_cast hn
  have:=R.aG (show 0<=-(p.1:Rat) by grind) (bSJ h);grind
 ·intro hp;have c:(0:Rat)<(p.1:Rat):=by exact_mod_cast hp
  exact bSV c h
theorem Gk{p:Int×Int}:R.qz p<0↔p.1<0:=by
 have h:=zC (p:=(-p.1,p.2));rw[mG]at h;constructor
 ·intro hp;have:=h.1 (by grind);dsimp only at this;omega
 ·intro hp;have:=h.2 (by dsimp only;omega);grind
theorem aHA{p q:Int×Int}{E:Int}{n:Nat}(hp:jG p)(hq:jG q)(h1:E<=p.2)(h2:E<=q.2)(v1:R.ab (R.qz p)<=R.pz (E+n))(v2:R.ab (R.qz q)<=R.pz (E+n))(hn:n<=500000)(hE:-1048576<=E)(hE2:E+n<=1048000):bM.jZ p q=true:=by
 unfold bM.jZ
 by_cases z1:p.1=0
 ·rw[decide_eq_true z1,bSM]
 by_cases z2:q.1=0
 ·rw[decide_eq_true z2,bSM,bTB]
 rw[decide_eq_false z1,decide_eq_false z2,bPC,bPC];obtain⟨m1,m2⟩:=Fs p q;have hm:E<=bM.fK p q:=by unfold bM.fK;split <;> omega
 have aUO:bM.fK p q<=1048576/\-1048576<=bM.fK p q:=by have:=hp.2.1;have:=hq.2.1;unfold bM.fK;split <;> omega
 have qX:R.qz (bM.lK p q,bM.fK p q)=R.qz p:=by
  unfold bM.lK R.qz;dsimp only;have e1:R.pz p.2=R.pz (bM.fK p q)*((2^(p.2-bM.fK p q).toNat:Nat):Rat):=by rw[<-R.dW];congr 1;omega
  rw[e1,bXW,bXT];grind
 have qY:R.qz (bM.lI p q,bM.fK p q)=R.qz q:=by
  unfold bM.lI R.qz;dsimp only;have e1:R.pz q.2=R.pz (bM.fK p q)*((2^(q.2-bM.fK p q).toNat:Nat):Rat):=by rw[<-R.dW];congr 1;omega
  rw[e1,bXW,bXT];grind
 have qS:R.qz (bM.lK p q+bM.lI p q,bM.fK p q)=R.qz p+R.qz q:=by
  rw[<-qX,<-qY];unfold R.qz;dsimp only;rw[bYY];grind
 have vS:R.ab (R.qz (bM.lK p q+bM.lI p q,bM.fK p q))<=R.pz (E+n+1):=by
  rw[qS,R.jJ];have:=R.Oh (R.qz p) (R.qz q);grind
 rw[<-qX]at v1;rw[<-qY]at v2;generalize bM.lK p q=X at *;generalize bM.lI p q=Y at *;generalize bM.fK p q=m at *;have bits:∀(z:Int) (F:Int),R.ab (R.qz (z,m))<=R.pz F->bl z.natAbs=0\/m+(bl z.natAbs:Nat)<=F+1:=by
  intro z F hv
  by_cases hz:z=0
  ·left;rw[hz];rfl
  ·right;have:=zY (p:=(z,m)) hz hv;unfold bB at this;dsimp only at this;omega
 have b1:=bits X _ v1;have b2:=bits Y _ v2;have b3:=bits (X+Y) _ vS;have f:∀z:Int,bl z.natAbs<=524288->fit z.natAbs=true:=fun z h=>decide_eq_true h
 rw[f X (by omega),f Y (by omega),f (X+Y) (by omega),fP (by omega) (by omega)];rfl
theorem uR{p:Int×Int}(h:jG p):jG ((p.1.natAbs:Int),p.2):=by
 obtain⟨h1,h2,h3,h4⟩:=h;exact⟨by dsimp only;rw[bSU];exact h1,h2,fun hz=>h3 (by dsimp only at hz;omega),fun hz=>by dsimp only at hz ⊢;have:=h4 (by omega);omega⟩
theorem Gl(p:Int×Int):R.qz ((p.1.natAbs:Int),p.2)=R.ab (R.qz p):=by
 rw[Sc];unfold R.qz;dsimp only;rw[bXT]
theorem aIT(p:Int×Int):bB ((p.1.natAbs:Int),p.2)=bB p:=by
 unfold bB;dsimp only;rw[bSU]
theorem mS:R.qz (1,0)=1:=by
 unfold R.qz;dsimp only;rw[R.fS];have:((1:Int):Rat)=1:=by norm_cast
 rw[this];grind
theorem xY:jG (1,0):=⟨by decide +kernel,⟨by decide,by decide⟩,fun h=>absurd h (by decide),fun _=>by decide⟩
theorem aFT{a f:Nat}{w q:Int}{V E:Rat}(hq:1<=q)(hE:R.ab ((a:Rat)-R.pz w*V)<=E)(hf:E<=(f:Rat))(hfa:(f:Rat)+E<=R.pz w*V)(hV:0<=V) :
  f<=a/\R.qz (shD false (bA.Et a f w) q)<=V-R.pz (-w)*f+R.pz (-w)*E/\V-R.pz (-w)*f-R.pz (-w)*E-R.pz (1-q)*V<=R.qz (shD false (bA.Et a f w) q) /\
  V+R.pz (-w)*f-R.pz (-w)*E<=R.qz (shD true (bA.yX a f w) q)/\R.qz (shD true (bA.yX a f w) q)<=V+R.pz (-w)*f+R.pz (-w)*E+R.pz (1-q)*(2*V):=by
 rw[R.cT]at hE;have aVF:f<=a:=by
  have:(f:Rat)<=(a:Rat):=by grind
  exact_mod_cast this
 refine⟨aVF,?_⟩;have g:=R.dJ (-w);have gi:=R.Tq w;have n1:=(Cc false (bA.Et a f w) hq).1 rfl;have n2:=(Cc true (bA.yX a f w) hq).2 rfl;have q1:R.qz (bA.Et a f w)=((a:Rat)-(f:Rat))*R.pz (-w):=by
  unfold bA.Et;rw[mT,bXT,R.Da aVF]
 have q2:R.qz (bA.yX a f w)=((a:Rat)+(f:Rat))*R.pz (-w):=by
  unfold bA.yX;rw[mT,bXT,bXN]
 rw[q1]at n1;rw[q2]at n2;have a0:(0:Rat)<=(a:Rat)-(f:Rat):=by grind
 have f0:(0:Rat)<=(f:Rat):=by exact_mod_cast bTF f
 rw[R.bG (R.aG a0 (bSJ g))]at n1;rw[R.bG (R.aG (show(0:Rat)<=(a:Rat)+(f:Rat) by grind) (bSJ g))]at n2;have eV:R.pz (-w)*(R.pz w*V)=V:=by rw[<-bYL,bZV (R.pz (-w)),gi];grind
 have m1:=R.aG (bSJ g) (show 0<=E-((a:Rat)-R.pz w*V) by grind);have m2:=R.aG (bSJ g) (show 0<=E+((a:Rat)-R.pz w*V) by grind);have m3:=R.aG (bSJ g) (show 0<=R.pz w*V-((f:Rat)+E) by grind);have m4:=R.aG (bSJ g) (show 0<=(f:Rat)-E by grind);have e0:R.pz w*V=R.pz w*V:=rfl;generalize R.pz w*V=U at *;generalize R.pz (-w)=G at *;have h0:=R.dJ (1-q);generalize R.pz (1-q)=H at *;have k1:=R.aG (bSJ h0) (show 0<=V-((a:Rat)-(f:Rat))*G by grind);have k2:=R.aG (bSJ h0) (show 0<=2*V-((a:Rat)+(f:Rat))*G by grind);refine⟨?_,?_,?_,?_⟩ <;> grind
theorem Yn(p:Int×Int):R.qz (bA.vE p)<=1/\R.qz (bA.vE p)<=R.qz p/\(R.qz (bA.vE p)=R.qz p\/R.qz (bA.vE p)=1)/\(∀v,v<=R.qz p->v<=1->v<=R.qz (bA.vE p)):=by
 unfold bA.vE
 by_cases h:0<cO p (1,0)
 ·rw[decide_eq_true h,cond_true,mS];have:=tA.1 h;rw[mS]at this;exact⟨bTP,bSJ this,Or.inr rfl,fun v _ h=>h⟩
 ·rw[decide_eq_false h,cond_false];have:R.qz p<=1:=by rw[<-mS];exact Rat.not_lt.1 fun hn=>h (tA.2 hn)
  exact⟨this,bTP,Or.inl rfl,fun v h _=>h⟩
theorem Wz{p:Int×Int}(h:jG p):jG (bA.vE p):=by
 unfold bA.vE;cases decide (0<cO p (1,0))
 ·exact h
 ·exact xY
theorem aGS{p:Int×Int}{n:Nat}(hn:1<=n)(h:bl p.1.natAbs<=n):bl (bA.vE p).1.natAbs<=n:=by
 unfold bA.vE;cases decide (0<cO p (1,0))
 ·exact h
 ·exact hn
theorem aWJ{x:Int×Int}{p:Int}{V:Rat}{a:Nat}(h0:x.1≠0)(h1:bB x<=0)(ht:-1200<=bB x)(hp:1<=p/\p<=67100)(hV:R.pz (bB x-1)<=V)(bFW:V<=1)
  (ha:R.ab ((a:Rat)-R.pz (aP.w2 x p)*V)<=R.pz (2*(aP.hv x p:Nat)+18)) :
  bC.aGZ a (2^(2*aP.hv x p+22)) (aP.w2 x p) (p+32) /\
  jG (shD false (bA.Et a (2^(2*aP.hv x p+22)) (aP.w2 x p)) (p+32)) /\
  R.qz (shD false (bA.Et a (2^(2*aP.hv x p+22)) (aP.w2 x p)) (p+32))<=V-R.pz (bB x-p-270) /\
  V-R.pz (bB x-p-61)-R.pz (-p-31)*V<=R.qz (shD false (bA.Et a (2^(2*aP.hv x p+22)) (aP.w2 x p)) (p+32)) /\
  V+R.pz (bB x-p-270)<=R.qz (shD true (bA.yX a (2^(2*aP.hv x p+22)) (aP.w2 x p)) (p+32)) /\
  R.qz (shD true (bA.yX a (2^(2*aP.hv x p+22)) (aP.w2 x p)) (p+32))<=V+R.pz (bB x-p-61)+R.pz (-p-31)*(2*V):=by
 obtain⟨e1,e2,h4,h5,h6,bCQ,bCP⟩:=Az h0 h1 ht hp;generalize aP.hv x p=h at *;generalize aP.w2 x p=w at *;have tp:=R.dJ (bB x-1);have V0:0<=V:=by grind
 have fE:((2^(2*h+22):Nat):Rat)=R.pz (2*(h:Nat)+22):=by rw[show 2*(h:Int)+22=((2*h+22:Nat):Int) by omega,R.oH]
 have l1:R.pz (2*(h:Nat)+18)<=R.pz (2*(h:Nat)+22):=R.dR (by omega);have l2:R.pz (2*(h:Nat)+22)+R.pz (2*(h:Nat)+18)<=R.pz w*V:=by
  have b1:R.pz (2*(h:Nat)+23)<=R.pz w*R.pz (bB x-1):=by rw[<-R.mH];exact R.dR (by omega)
  have b2:R.pz (2*(h:Nat)+23)=2*R.pz (2*(h:Nat)+22):=by rw[<-R.jJ];congr 1
  have b3:=R.aG (bSJ (R.dJ w)) (show 0<=V-R.pz (bB x-1) by grind);grind
 have r:=aFT (a:=a) (f:=2^(2*h+22)) (w:=w) (q:=p+32) (V:=V) (E:=R.pz (2*(h:Nat)+18)) (by omega) ha (by rw[fE];exact l1) (by rw[fE];exact l2) V0;obtain⟨r0,r1,r2,r3,r4⟩:=r;rw[fE,<-R.mH,<-R.mH]at r1 r2 r3 r4;rw[show(1:Int)-(p+32)=-p-31 by omega]at r2 r4;have d1:R.pz (-w+(2*(h:Nat)+18))=R.pz (-w+(2*(h:Nat)+22))/16:=by
  have:=R.fJ (-w+(2*(h:Nat)+22)) (n:=4) (c:=16) (by norm_cast);rw[show -w+(2*(h:Int)+22)-((4:Nat):Int)=-w+(2*(h:Nat)+18) by omega]at this;grind
 have d2:R.pz (bB x-p-270)<=R.pz (-w+(2*(h:Nat)+22))/16:=by rw[<-d1];exact R.dR (by omega)
 have d3:R.pz (-w+(2*(h:Nat)+22))*2<=R.pz (bB x-p-61):=by
  rw[bZV,<-R.jJ];exact R.dR (by omega)
 rw[d1]at r1 r2 r3 r4;have dp:=R.dJ (-w+(2*(h:Nat)+22));have ba:bl a<=70000:=by
  have:(a:Rat)<=R.pz (w+1):=by
   rw[R.cT]at ha;rw[R.jJ];have b3:=R.aG (bSJ (R.dJ w)) (show 0<=1-V by grind);have:R.pz (2*(h:Nat)+18)<=R.pz w:=R.dR (by omega);grind
  obtain⟨n,hn⟩:=bSE (show 0<=w+1 by omega);rw[hn,R.oH]at this;have:a<=2^n:=by exact_mod_cast this
  refine bNX (gU this) ?_;rw[aGU];omega
 have bf:bl (2^(2*h+22))<=500:=by rw[aGU];omega
 have bs:bl (a-2^(2*h+22))<=70000:=bNX (gU (bTZ _ _)) ba;have bt:bl (a+2^(2*h+22))<=70001:=bNX (yI _ _) (by omega);have j1:fN ((a-2^(2*h+22):Nat):Int) (-w)=true:=fP (by omega) (by rw[bSU];omega);have j2:fN ((a+2^(2*h+22):Nat):Int) (-w)=true:=fP (by omega) (by rw[bSU];omega);have p1:jG (bA.Et a (2^(2*h+22)) w):=fM j1 (by rw[bSU];omega);have p2:jG (bA.yX a (2^(2*h+22)) w):=fM j2 (by rw[bSU];omega);have aMF:∀{z:Nat},bl z<=70001->jG (aK (z:Int) (-w))->aYC (aK (z:Int) (-w)):=by
  intro z hz hP;refine⟨hP,?_⟩;have hb:=qV (z:Int) (-w);rw[bSU]at hb
  by_cases z0:(z:Int)=0
  ·rw[z0,dO];show(0:Int)+((bl (0:Int).natAbs:Nat):Int)<=1048000;decide +kernel
  ·have h2:=(jK (e:=-w) z0).2;have h3:=zX (n:=z) (by omega);rw[bSU]at h2;omega
 obtain⟨s1,s2⟩:=Kl (up:=false) (n:=p+32) (aMF (by omega) p1) (by omega);obtain⟨s3,s4⟩:=Kl (up:=true) (n:=p+32) (aMF bt p2) (by omega);refine⟨⟨by omega,by omega,⟨by omega,by omega⟩,s1,s3,s4⟩,s2,?_,?_,?_,?_⟩ <;> grind
end M
namespace M
open Go AI W
theorem aNV(up:Bool)(p:Int×Int){n:Int}(hn:bB p+1-n<=0):bB p+1-n<=(shD up p n).2:=by
 have key:∀z e:Int,bB p+1-n<=e->bB p+1-n<=(aK z e).2:=by
  intro z e he
  by_cases hz:z=0
  ·rw[hz,dO];exact hn
  ·have:=nJ (e:=e) hz;omega
 unfold shD bV.mA;unfold bB at *;split
 ·exact key _ _ (by omega)
 ·exact key _ _ (by omega)
theorem Wn{up:Bool}{p:Int×Int}{n:Int}(h:(shD up p n).1≠0):bB p+1-n<=(shD up p n).2:=by
 have key:∀z e:Int,(aK z e).1≠0->bB p+1-n<=e->bB p+1-n<=(aK z e).2:=by
  intro z e h0 he;have:=nJ (e:=e) (fun hz=>h0 (dT.2 hz));omega
 unfold shD at *;refine key _ _ h ?_;unfold bV.mA bB at *;split <;> (dsimp only;omega)
theorem Yr{p q:Int×Int}{E:Int}(h1:E<=p.2)(h2:E<=q.2)(h0:E<=0):E<=(bM.oT p q).2:=by
 have hm:E<=bM.fK p q:=by unfold bM.fK;split <;> omega
 unfold bM.oT;split
 ·exact h2
 ·split
  ·exact h1
  ·by_cases hz:bM.lK p q+bM.lI p q=0
   ·rw[hz,dO];exact h0
   ·have:=nJ (e:=bM.fK p q) hz;omega
theorem aGW{p:Int×Int}{E F:Int}(h1:E<=p.2)(h2:R.ab (R.qz p)<=R.pz F):(bl p.1.natAbs:Int)<=F+1-E\/bl p.1.natAbs=0:=by
 by_cases h0:p.1=0
 ·right;rw[h0];rfl
 ·left;have:=zY h0 h2;unfold bB at this;omega
theorem Fh(k:Int):R.qz (-1,k)=-R.pz k:=by
 unfold R.qz;dsimp only;have:((-1:Int):Rat)=-1:=by norm_cast
 rw[this];grind
theorem Py{k:Int}(h:-1048576<=k/\k<=1048576):jG (-1,k):=⟨by show bl (-1:Int).natAbs<=524288;decide +kernel,h,fun h=>absurd (show(-1:Int)=0 from h) (by decide),fun _=>by show(-1:Int)%2=1;decide⟩
theorem Vx{x:Int×Int}(h0:x.1≠0)(hT:R.ab (R.qz x)<=4/5):bB x<=-1:=by
 have:R.ab (R.qz x)<R.pz 0:=by rw[R.fS];grind
 have:=Bv h0 this;omega
structure aRW(x:Int×Int)(p:Int):Prop where
 pl:jG (eR.qT x p)
 ph:jG (eR.pT x p)
 bl:bl (eR.qT x p).1.natAbs<=80000
 bh:M.bl (eR.pT x p).1.natAbs<=80000
 lo:R.qz (eR.qT x p)<=R.sn (R.ab (R.qz x))-R.pz (bB x-p-270)
 hi:R.sn (R.ab (R.qz x))<=R.qz (eR.pT x p)
 wd:R.qz (eR.pT x p)-R.qz (eR.qT x p)<=R.pz (-p-1)*R.ab (R.qz x)
 one:R.qz (eR.pT x p)<=1
 mh:¬2*bB x+8 < -p->R.sn (R.ab (R.qz x))+R.pz (bB x-p-270)<=R.qz (eR.pT x p)
 pos:0<R.qz (eR.qT x p)
 aYT:2*bB x+8 < -p->wA true ((x.1.natAbs:Int),x.2) (p+32)=true/\wA false ((x.1.natAbs:Int),x.2) (p+32)=true/\jG (shD false ((x.1.natAbs:Int),x.2) (p+32))/\bM.jZ (shD false ((x.1.natAbs:Int),x.2) (p+32)) (-1,bB x-p-3)=true
 okB:¬2*bB x+8 < -p->bC.Ob x p/\bC.aGZ (aP.yT x p).1 (2^(2*aP.hv x p+22)) (aP.w2 x p) (p+32)
theorem aLZ{p:Int}(hp:1<=p):R.pz (-p-1)<=1/4:=by
 have h:=R.dR (show -p-1<=-2 by omega);have h2:=R.wR 2;rw[show -((2:Nat):Int)=-2 by rfl]at h2;rw[h2]at h;have h3:R.hf 2=1/4:=by simp[R.hf];grind
 grind
theorem Ps{x:Int×Int}{p:Int}(hx:jG x)(h0:x.1≠0)(hT:R.ab (R.qz x)<=4/5)(ht:-1200<=bB x)(hp:1<=p/\p<=67100):aRW x p:=by
 have h1:=Vx h0 hT;obtain⟨e1,e2,h4,h5,h6,bCQ,bCP⟩:=Az h0 (by omega) ht hp;obtain⟨t1,t2⟩:=rU h0;have tp:=R.dJ (bB x);have T0:0<R.ab (R.qz x):=by grind
 obtain⟨v1,v2⟩:=R.Wl (bSJ T0) hT;obtain⟨z,hz⟩:∃z,z=R.pz (-p-31):=⟨_,rfl⟩;have z0:=R.dJ (-p-31);have q1:R.pz (-p-1)=1073741824*z:=by
  have:=R.fJ (-p-1) (n:=30) (c:=1073741824) (by norm_cast);rw[show -p-1-((30:Nat):Int)=-p-31 by omega,<-hz]at this;grind
 have q2:R.pz (bB x-p-61)=z*R.pz (bB x)/1073741824:=by
  have:=R.fJ (-p-31+bB x) (n:=30) (c:=1073741824) (by norm_cast);rw[show -p-31+bB x-((30:Nat):Int)=bB x-p-61 by omega,R.mH,<-hz]at this;grind
 have q3:R.pz (bB x-p-3)=268435456*(z*R.pz (bB x)):=by
  have:=R.fJ (bB x-p-3) (n:=28) (c:=268435456) (by norm_cast);rw[show bB x-p-3-((28:Nat):Int)=-p-31+bB x by omega,R.mH,<-hz]at this;grind
 have sm:=aLZ hp.1;rw[q1]at sm;rw[<-hz]at z0;have zt:=R.aG (bSJ z0) (show 0<=R.ab (R.qz x)-R.pz (bB x) by grind);have zT:=R.aG (bSJ T0) (show 0<=1/4-1073741824*z by grind);have aJR:R.pz (bB x-p-270)<=R.pz (bB x-p-61):=R.dR (by omega);have p270:=R.dJ (bB x-p-270)
 by_cases c:2*bB x+8 < -p
 ·have dL:eR.qT x p=bM.oT (shD false ((x.1.natAbs:Int),x.2) (p+32)) (-1,bB x-p-3):=by unfold eR.qT;rw[e1,if_pos c]
  have dH:eR.pT x p=shD true ((x.1.natAbs:Int),x.2) (p+32):=by unfold eR.pT;rw[e1,if_pos c]
  have pX:=uR hx;have vX:=Gl x;have tX:=aIT x;have n1:=(Cc false ((x.1.natAbs:Int),x.2) (n:=p+32) (by omega)).1 rfl;have n2:=(Cc true ((x.1.natAbs:Int),x.2) (n:=p+32) (by omega)).2 rfl;rw[vX,show(1:Int)-(p+32)=-p-31 by omega,<-hz,R.bG (bSJ T0)]at n1 n2;have aMF:aYC ((x.1.natAbs:Int),x.2):=⟨pX,by unfold bB at tX h1;dsimp only at *;omega⟩;obtain⟨s1,s2⟩:=Kl (up:=false) (n:=p+32) aMF (by omega);obtain⟨s3,s4⟩:=Kl (up:=true) (n:=p+32) aMF (by omega);have x1:=aNV false ((x.1.natAbs:Int),x.2) (n:=p+32) (by rw[tX];omega);have x2:=Ab true ((x.1.natAbs:Int),x.2) (p+32).toNat;rw[tX]at x1;rw[show(((p+32).toNat:Nat):Int)=p+32 by omega]at x2;have pm:=Py (k:=bB x-p-3) (by omega);have T1:R.ab (R.qz x)<=R.pz (bB x+1):=bSJ t2;have L0:0<=R.qz (shD false ((x.1.natAbs:Int),x.2) (p+32)):=by grind
  have aWK:bM.jZ (shD false ((x.1.natAbs:Int),x.2) (p+32)) (-1,bB x-p-3)=true:=by
   refine aHA (E:=bB x-p-40) (n:=(p+41).toNat) s2 pm (by omega) (by dsimp only;omega) ?_ ?_ (by omega) (by omega) (by omega)
   ·rw[show bB x-p-40+(((p+41).toNat:Nat):Int)=bB x+1 by omega,R.bG L0];grind
   ·rw[Fh,R.fW,R.bG (bSJ (R.dJ _))];exact R.dR (by omega)
  have pl:=Xa s2 pm aWK;have xl:=Yr (p:=shD false ((x.1.natAbs:Int),x.2) (p+32)) (q:=(-1,bB x-p-3)) (E:=bB x-p-40) (by omega) (by dsimp only;omega) (by omega);have ql:=aDE (shD false ((x.1.natAbs:Int),x.2) (p+32)) (-1,bB x-p-3);rw[Fh,q3]at ql;rw[<-dL]at pl xl ql;rw[<-dH]at s4 x2 n2;have cube:R.ab (R.qz x)-z*R.pz (bB x)*268435456/16<=R.sn (R.ab (R.qz x)):=by
   have s:=(R.wL (bSJ T0) (show R.ab (R.qz x)<=1 by grind)).1;have a1:R.ab (R.qz x)*R.ab (R.qz x)<=R.pz (bB x+1)*R.pz (bB x+1):=R.cC (bSJ T0) T1 (bSJ T0) T1;rw[<-R.mH]at a1;have a2:R.pz (bB x+1+(bB x+1))<=R.pz (-p-7):=R.dR (by omega);have a3:R.pz (-p-7)=16777216*z:=by
    have:=R.fJ (-p-7) (n:=24) (c:=16777216) (by norm_cast);rw[show -p-7-((24:Nat):Int)=-p-31 by omega,<-hz]at this;grind
   have a4:=R.aG (show 0<=16777216*z-R.ab (R.qz x)*R.ab (R.qz x) by grind) (bSJ T0);rw[R.jJ]at T1;have a5:=R.aG (bSJ z0) (show 0<=2*R.pz (bB x)-R.ab (R.qz x) by grind);generalize R.ab (R.qz x)=T at *;grind
  have bHA:=bSV z0 tp;refine⟨pl,s4,?_,by omega,?_,?_,?_,?_,fun h=>absurd c h,?_,fun _=>⟨s3,s1,s2,aWK⟩,fun h=>absurd c h⟩
  ·have v:R.ab (R.qz (eR.qT x p))<=R.pz (bB x+1):=by
    rw[R.bG (by grind)];grind
   have:=aGW xl v;omega
  ·rw[q2]at aJR;grind
  ·grind
  ·rw[q1];grind
  ·grind
  ·grind
 ·have dL:eR.qT x p=shD false (bA.Et (aP.yT x p).1 (2^(2*aP.hv x p+22)) (aP.w2 x p)) (p+32):=by unfold eR.qT;rw[e1,if_neg c]
  have dH:eR.pT x p=bA.vE (shD true (bA.yX (aP.yT x p).1 (2^(2*aP.hv x p+22)) (aP.w2 x p)) (p+32)):=by unfold eR.pT;rw[e1,if_neg c]
  obtain⟨b1,b2,b3⟩:=Rq h0 (by grind) (by omega) ht hp;have hV:R.pz (bB x-1)<=R.sn (R.ab (R.qz x)):=by
   have:=R.pU (bB x);grind
  obtain⟨a1,a2,a3,a4,a5,a6⟩:=aWJ h0 (by omega) ht hp hV (by grind) b2;have a7:=a1.2.2.2.2.2;have c1:=Ab false (bA.Et (aP.yT x p).1 (2^(2*aP.hv x p+22)) (aP.w2 x p)) (p+32).toNat;have c2:=Ab true (bA.yX (aP.yT x p).1 (2^(2*aP.hv x p+22)) (aP.w2 x p)) (p+32).toNat;rw[show(((p+32).toNat:Nat):Int)=p+32 by omega]at c1 c2;obtain⟨k1,k2,k3,k4⟩:=Yn (shD true (bA.yX (aP.yT x p).1 (2^(2*aP.hv x p+22)) (aP.w2 x p)) (p+32));have c3:=aGS (n:=80000) (by omega) (show bl (shD true (bA.yX (aP.yT x p).1 (2^(2*aP.hv x p+22)) (aP.w2 x p)) (p+32)).1.natAbs<=80000 by omega);have c4:=Wz a7;rw[<-dL]at a2 a3 a4 c1;rw[<-dH]at k1 k2 k3 k4 c3 c4;generalize shD true (bA.yX (aP.yT x p).1 (2^(2*aP.hv x p+22)) (aP.w2 x p)) (p+32)=hi at *;rw[<-hz]at a4 a6;have zV:=R.aG (bSJ z0) (show 0<=R.ab (R.qz x)-R.sn (R.ab (R.qz x)) by grind);have hm:R.sn (R.ab (R.qz x))+R.pz (bB x-p-270)<=R.qz (eR.pT x p):=by
   refine k4 _ a5 ?_;rw[q2]at aJR;grind
  refine⟨a2,c4,by omega,c3,a3,by grind,?_,k1,fun _=>hm,?_,fun h=>absurd h c,fun _=>⟨⟨⟨by omega,by omega⟩,b1⟩,a1⟩⟩
  ·rw[q1];rw[q2]at a4 a6;grind
  ·rw[q2]at a4;grind
structure aYF(x:Int×Int)(p:Int):Prop where
 pl:jG (bC.rD x p)
 ph:jG (bC.qD x p)
 bl:bl (bC.rD x p).1.natAbs<=80000
 bh:M.bl (bC.qD x p).1.natAbs<=80000
 lo:R.qz (bC.rD x p)<=R.cs (R.ab (R.qz x))
 hi:R.cs (R.ab (R.qz x))<=R.qz (bC.qD x p)
 wd:R.qz (bC.qD x p)-R.qz (bC.rD x p)<=R.pz (-p-1)
 one:R.qz (bC.qD x p)<=1
 ml:x.1≠0->R.qz (bC.rD x p)<=R.cs (R.ab (R.qz x))-R.pz (bB x-p-270)
 mh:x.1≠0->¬2*bB x+8 < -p->R.cs (R.ab (R.qz x))+R.pz (bB x-p-270)<=R.qz (bC.qD x p)
 aYT:x.1≠0->2*bB x+8 < -p->bM.jZ (1,0) (-1,-p-3)=true
 okB:x.1≠0->¬2*bB x+8 < -p->bC.Ob x p/\bC.aGZ (aP.yT x p).2 (2^(2*aP.hv x p+22)) (aP.w2 x p) (p+32)
theorem Hv{x:Int×Int}{p:Int}(hT:R.ab (R.qz x)<=4/5)(ht:x.1≠0->-1200<=bB x)(hp:1<=p/\p<=67100):aYF x p:=by
 obtain⟨z,hz⟩:∃z,z=R.pz (-p-31):=⟨_,rfl⟩;have z0:=R.dJ (-p-31);have q1:R.pz (-p-1)=1073741824*z:=by
  have:=R.fJ (-p-1) (n:=30) (c:=1073741824) (by norm_cast);rw[show -p-1-((30:Nat):Int)=-p-31 by omega,<-hz]at this;grind
 have sm:=aLZ hp.1;rw[q1]at sm;rw[<-hz]at z0
 by_cases h0:x.1=0
 ·have dL:bC.rD x p=(1,0):=by unfold bC.rD;rw[if_pos h0]
  have dH:bC.qD x p=(1,0):=by unfold bC.qD;rw[if_pos h0]
  have c1:R.cs (R.ab (R.qz x))=1:=by rw[R.nH h0,R.bG (bTP),R.Yh]
  refine⟨by rw[dL];exact xY,by rw[dH];exact xY,by rw[dL];decide +kernel,by rw[dH];decide +kernel,by rw[dL,mS,c1];exact bTP,by rw[dH,mS,c1];exact bTP,?_,by rw[dH,mS];exact bTP,fun h=>absurd h0 h,fun h=>absurd h0 h,fun h=>absurd h0 h,fun h=>absurd h0 h⟩;rw[dL,dH,q1];grind
 ·have ht:=ht h0;have h1:=Vx h0 hT;obtain⟨e1,e2,h4,h5,h6,bCQ,bCP⟩:=Az h0 (by omega) ht hp;obtain⟨t1,t2⟩:=rU h0;have tp:=R.dJ (bB x);have T0:0<R.ab (R.qz x):=by grind
  obtain⟨v1,v2⟩:=R.Lc (r:=R.ab (R.qz x)) (by rw[R.bG (bSJ T0)];exact hT);have T1:R.ab (R.qz x)<=R.pz (bB x+1):=bSJ t2;have pt:R.pz (bB x)<=1/2:=by
   have:=R.dR (show bB x+1<=0 by omega);rw[R.jJ,R.fS]at this;grind
  have q2:R.pz (bB x-p-61)=z*R.pz (bB x)/1073741824:=by
   have:=R.fJ (-p-31+bB x) (n:=30) (c:=1073741824) (by norm_cast);rw[show -p-31+bB x-((30:Nat):Int)=bB x-p-61 by omega,R.mH,<-hz]at this;grind
  have zt:=R.aG (bSJ z0) (show 0<=1/2-R.pz (bB x) by grind);have bHA:=bSV z0 tp;have aJR:R.pz (bB x-p-270)<=R.pz (bB x-p-61):=R.dR (by omega);rw[q2]at aJR;have cs2:=R.Ht (bSJ T0) (show R.ab (R.qz x)<=1 by grind)
  by_cases c:2*bB x+8 < -p
  ·have dL:bC.rD x p=bM.oT (1,0) (-1,-p-3):=by unfold bC.rD;rw[e1,if_neg h0,if_pos c]
   have dH:bC.qD x p=(1,0):=by unfold bC.qD;rw[e1,if_neg h0,if_pos c]
   have pm:=Py (k:=-p-3) (by omega);have o1:R.ab (R.qz (1,0))<=R.pz 0:=by rw[mS,R.fS,R.bG (by grind)];exact bTP
   have aWK:bM.jZ (1,0) (-1,-p-3)=true:=by
    refine aHA (E:=-p-3) (n:=(p+3).toNat) xY pm (by dsimp only;omega) (by dsimp only;omega) ?_ ?_ (by omega) (by omega) (by omega)
    ·rw[show -p-3+(((p+3).toNat:Nat):Int)=0 by omega];exact o1
    ·rw[Fh,R.fW,R.bG (bSJ (R.dJ _))];exact R.dR (by omega)
   have pl:=Xa xY pm aWK;have xl:=Yr (p:=(1,0)) (q:=(-1,-p-3)) (E:=-p-3) (by dsimp only;omega) (by dsimp only;omega) (by omega);have ql:=aDE (1,0) (-1,-p-3);have q3:R.pz (-p-3)=268435456*z:=by
    have:=R.fJ (-p-3) (n:=28) (c:=268435456) (by norm_cast);rw[show -p-3-((28:Nat):Int)=-p-31 by omega,<-hz]at this;grind
   rw[Fh,mS,q3]at ql;rw[<-dL]at pl xl ql;have lo:R.qz (bC.rD x p)<=R.cs (R.ab (R.qz x))-R.pz (bB x-p-270):=by
    have a1:R.ab (R.qz x)*R.ab (R.qz x)<=R.pz (bB x+1)*R.pz (bB x+1):=R.cC (bSJ T0) T1 (bSJ T0) T1;rw[<-R.mH]at a1;have a2:R.pz (bB x+1+(bB x+1))<=R.pz (-p-7):=R.dR (by omega);have a3:R.pz (-p-7)=16777216*z:=by
     have:=R.fJ (-p-7) (n:=24) (c:=16777216) (by norm_cast);rw[show -p-7-((24:Nat):Int)=-p-31 by omega,<-hz]at this;grind
    grind
   refine⟨pl,by rw[dH];exact xY,?_,by rw[dH];decide +kernel,?_,by rw[dH,mS];exact v2,?_,by rw[dH,mS];exact bTP,fun _=>lo,fun _ h=>absurd c h,fun _ _=>aWK,fun _ h=>absurd c h⟩
   ·have v:R.ab (R.qz (bC.rD x p))<=R.pz 0:=by
     rw[R.fS,R.bG (by grind)];grind
    have:=aGW xl v;omega
   ·have:=R.dJ (bB x-p-270);grind
   ·rw[dH,mS,q1];grind
  ·have dL:bC.rD x p=shD false (bA.Et (aP.yT x p).2 (2^(2*aP.hv x p+22)) (aP.w2 x p)) (p+32):=by unfold bC.rD;rw[e1,if_neg h0,if_neg c]
   have dH:bC.qD x p=bA.vE (shD true (bA.yX (aP.yT x p).2 (2^(2*aP.hv x p+22)) (aP.w2 x p)) (p+32)):=by unfold bC.qD;rw[e1,if_neg h0,if_neg c]
   obtain⟨b1,b2,b3⟩:=Rq h0 (by grind) (by omega) ht hp;have hV:R.pz (bB x-1)<=R.cs (R.ab (R.qz x)):=by
    have:=R.pU (bB x);grind
   obtain⟨a1,a2,a3,a4,a5,a6⟩:=aWJ h0 (by omega) ht hp hV v2 b3;have a7:=a1.2.2.2.2.2;have c1:=Ab false (bA.Et (aP.yT x p).2 (2^(2*aP.hv x p+22)) (aP.w2 x p)) (p+32).toNat;have c2:=Ab true (bA.yX (aP.yT x p).2 (2^(2*aP.hv x p+22)) (aP.w2 x p)) (p+32).toNat;rw[show(((p+32).toNat:Nat):Int)=p+32 by omega]at c1 c2;obtain⟨k1,k2,k3,k4⟩:=Yn (shD true (bA.yX (aP.yT x p).2 (2^(2*aP.hv x p+22)) (aP.w2 x p)) (p+32));have c3:=aGS (n:=80000) (by omega) (show bl (shD true (bA.yX (aP.yT x p).2 (2^(2*aP.hv x p+22)) (aP.w2 x p)) (p+32)).1.natAbs<=80000 by omega);have c4:=Wz a7;rw[<-dL]at a2 a3 a4 c1;rw[<-dH]at k1 k2 k3 k4 c3 c4;generalize shD true (bA.yX (aP.yT x p).2 (2^(2*aP.hv x p+22)) (aP.w2 x p)) (p+32)=hi at *;rw[<-hz]at a4 a6;have zV:=R.aG (bSJ z0) (show 0<=1-R.cs (R.ab (R.qz x)) by grind);have m9:=R.dJ (bB x-p-270);have room:R.cs (R.ab (R.qz x))+R.pz (bB x-p-270)<=1:=by
    have a1:R.pz (bB x)*R.pz (bB x)<=R.ab (R.qz x)*R.ab (R.qz x):=R.cC (bSJ tp) t1 (bSJ tp) t1;rw[<-R.mH]at a1;have a2:R.pz (-p-9)<=R.pz (bB x+bB x):=R.dR (by omega);have a3:R.pz (-p-9)=4194304*z:=by
     have:=R.fJ (-p-9) (n:=22) (c:=4194304) (by norm_cast);rw[show -p-9-((22:Nat):Int)=-p-31 by omega,<-hz]at this;grind
    have a5:=R.cC (bSJ T0) hT (bSJ T0) hT;have a6:=R.aG (show 0<=R.ab (R.qz x)*R.ab (R.qz x) by grind) (show 0<=16/25-R.ab (R.qz x)*R.ab (R.qz x) by grind);generalize R.ab (R.qz x)=T at *;grind
   have hm:R.cs (R.ab (R.qz x))+R.pz (bB x-p-270)<=R.qz (bC.qD x p):=k4 _ a5 room;rw[q2]at a4 a6;refine⟨a2,c4,by omega,c3,by grind,by grind,?_,k1,fun _=>a3,fun _ _=>hm,fun _ h=>absurd h c,fun _ _=>⟨⟨⟨by omega,by omega⟩,b1⟩,a1⟩⟩;rw[q1];grind
end M
namespace W
open Go AI M
namespace bP
def E:=mE [(118,fB.aH),(119,kW.aH)] 33 [15] [] []
def aE:=bd f65
theorem aU:Nk E aE:=nk
theorem start a b:aF E f65 aE [D.s (sc (int i64 a)),D.s (sc (int u64 b))]=letI F:=bif fB.iA a b then(0:Int)else(2:Int);letI B:=aM.gY a;letI I:=int i64 B.snd.fst;letI H:=int u64 B.snd.snd.snd;letI G:=int i64 B.snd.snd.fst;letI C:=(B.fst,B.snd.fst,B.snd.snd.fst,B.snd.snd.snd);letI A:=some [D.agg [sc (int i64 B.fst),sc I,sc G,sc H],D.s (sc (bool (fB.iA a b&&decide (dM.dX B<=b)))),D.s (sc (int u64 (bif fB.iA a b then b%dM.dX B else(0:Int)))),D.s (sc (int i64 F))];aQ ((a=32\/a=64)/\0<=b/\b<18446744073709551616) (aB (F==0) (aQ (aM.Bg C) (aB (decide (kW.mM C<=bif fB.iA a b then b%dM.dX B else(0:Int))) (some [D.agg [sc (int i64 B.fst),sc I,sc G,sc H],D.s (sc (bool false)),D.s (sc (int u64 0)),D.s (sc (int i64 6))]) A)) A):=eJ aU
def gW(f b:Int):Bool:=decide (b%dM.dX (aM.gY f)<kW.mM (aM.gY f))
theorem Fa{f:Int}(h:f=32\/f=64):aM.Bg (aM.gY f):=by
 rcases h with rfl |rfl
 ·exact .inl rfl
 ·exact .inr rfl
def sp(f b:Int):Prop×List D:=((f=32\/f=64)/\0<=b/\b<18446744073709551616,[aM.aYJ (aM.gY f),.s (.sc (.bool (fB.iA f b&&(gW f b&&decide (dM.dX (aM.gY f)<=b))))),.s (.sc (.int .u64 (bif fB.iA f b&&gW f b then b%dM.dX (aM.gY f)else 0))),.s (.sc (.int .i64 (bif fB.iA f b then(bif gW f b then 0 else 6)else 2)))])
theorem spec:fO E f65 aE (pN .i64) (pN .u64) sp:=by
 intro f b h;refine(start f b).trans ((gP h).trans ?_);unfold sp gW
 try dsimp only
 have ht:=Fa h.1;generalize aM.gY f=s at *;obtain⟨s1,s2,s3,s4⟩:=s;cases hp:fB.iA f b with
 |false=>rfl
 |true =>
  try dsimp only[cond_true,bQC]
  rw[cF rfl,gP ht]
  by_cases hc:b%dM.dX (s1,s2,s3,s4)<kW.mM (s1,s2,s3,s4)
  ·rw[aI,decide_eq_true hc];rfl
  ·rw[aO,decide_eq_false hc];rfl
def aH:dC:=orc2 (pN .i64) (pN .u64) sp
theorem ok:OK 65 aH:=(eI E aE (aA fB.ok (aA kW.ok aD)) func65).lP rfl spec
end bP
namespace iG
def E:=mE [(120,cX.aH)] 31 [] [] []
def aE:=bd f66
theorem aU:Nk E aE:=nk
theorem start a c d e b:aF E f66 aE [D.agg [sc (int i64 a),sc (int i64 c),sc (int i64 d),sc (int u64 e)],D.s (sc (int u64 b))]=letI B:=(a,c,d,e);letI C:=aM.Bg B;letI A:=cX.lT B;aQ C (if cX.lT B=0 then none else aQ C (if cX.lT B=0 then none else aB (u64.wrap (b.tdiv A)==0) (some [D.s (sc (int u64 (b.tmod A))),D.s (sc (int i64 d))]) (aQ C (some [D.s (sc (int u64 (u64.wrap (cX.lT B+b.tmod A)))),D.s (sc (int i64 (i64.wrap (i64.wrap (d+i64.wrap (u64.wrap (b.tdiv A)))-1))))])))):=eJ aU
def Co(s:Int×Int×Int×Int)(n:Int):Int:=if n/cX.lT s=0 then n%cX.lT s else cX.lT s+n%cX.lT s
def Es(s:Int×Int×Int×Int)(n:Int):Int:=if n/cX.lT s=0 then s.2.2.1 else s.2.2.1+n/cX.lT s-1
def sp(s:Int×Int×Int×Int)(n:Int):Prop×List D:=(aM.Bg s/\0<=n/\n<9223372036854775808,[.s (.sc (.int .u64 (Co s n))),.s (.sc (.int .i64 (Es s n)))])
theorem spec:fO E f66 aE (pG (.pair (sN .i64) (.pair (sN .i64) (.pair (sN .i64) (sN .u64))))) (pN .u64) sp:=by
 rintro s n ⟨ht,h0,h1⟩;obtain⟨s1,s2,s3,s4⟩:=s;refine(start s1 s2 s3 s4 n).trans ?_;have hh:cX.lT (s1,s2,s3,s4)=8388608\/cX.lT (s1,s2,s3,s4)=4503599627370496:=by
  unfold cX.lT;split <;> simp
 have hs:-1074<=s3/\s3<=0:=by rcases ht with ht |ht <;> (cases ht;omega)
 unfold sp Co Es
 try dsimp only
 rw[gP ht,gP ht,gP ht];generalize cX.lT (s1,s2,s3,s4)=d at *;have t1:n.tdiv d=n/d:=bUQ h0;have t2:n.tmod d=n%d:=bUR h0;have b1:0<=n/d/\n/d<9223372036854775808:=by rcases hh with rfl |rfl <;> omega
 have b2:0<=n%d/\n%d<4503599627370496:=by rcases hh with rfl |rfl <;> omega
 rw[t1,t2,aX,aX,wrap_u64 (n:=n/d)]
 by_cases hz:n/d=0
 ·rw[cF hz,if_pos hz,if_pos hz]
 ·rw[bS hz,if_neg hz,if_neg hz,wrap_u64,wrap_i64 (n:=n/d),wrap_i64 (n:=s3+n/d),wrap_i64]
def aH:dC:=orc2 (pG (.pair (sN .i64) (.pair (sN .i64) (.pair (sN .i64) (sN .u64))))) (pN .u64) sp
theorem ok:OK 66 aH:=(eI E aE (aA cX.ok aD) func66).lP rfl spec
end iG
namespace Pe
def E:=mE [(117,mP.aH),(63,iK.aH)] 20 [17] [] []
def aE:=bd f67
theorem aU:Nk E aE:=nk
theorem start a b c:aF E f67 aE [D.s (sc (bool a)),D.s (sc (int u64 b)),D.s (sc (int i64 c))]=letI G:=(b !=0,M6.dg b.toNat);letI F:=wv (bif true then b !=0 else false,M6.dg b.toNat);letI C:=(false,M6.dg b.toNat);letI B:=bif fN (wv C) c then aK (wv C) c else((0:Int),(0:Int));letI A:=bif fN F c then aK F c else((0:Int),(0:Int));aB a (aQ (0<=b/\b<18446744073709551616) (aQ (kA G/\(-9223372036854775808:Int)<=c/\c<9223372036854775808) (some [D.agg [sc (bool (isNeg A.fst)),ints u64 (M6.dg A.fst.natAbs),sc (int i64 A.snd)],D.s (sc (int i64 (bif fN (wv G) c then(0:Int)else(5:Int))))]))) (aQ (0<=b/\b<18446744073709551616) (aQ (kA C/\(-9223372036854775808:Int)<=c/\c<9223372036854775808) (some [D.agg [sc (bool (isNeg B.fst)),ints u64 (M6.dg B.fst.natAbs),sc (int i64 B.snd)],D.s (sc (int i64 (bif fN (wv C) c then(0:Int)else(5:Int))))]))):=eJ aU
def sp(a:Bool)(b c:Int):Prop×List D:=((0<=b/\b<18446744073709551616)/\-9223372036854775808<=c/\c<9223372036854775808,dE (fN (zs a b.toNat) c) (aK (zs a b.toNat) c))
theorem spec:tL E f67 aE pB (pN .u64) (pN .i64) sp:=by
 rintro a b c ⟨hb,hc⟩;refine(start a b c).trans ?_;have hl:=eZ (n:=b.toNat) (k:=1) (dV.2 (by omega));have aLR:∀s:Bool,wv (s,M6.dg b.toNat)=zs s b.toNat:=fun s=>by show zs s (M6.val (M6.dg b.toNat))=_;rw[M6.bJ]
 have h0:kA (false,M6.dg b.toNat):=⟨M6.aW _,fun h=>Bool.noConfusion h,(by omega:(M6.dg b.toNat).length<=8192)⟩;cases a with
 |false =>
  rw[bF,gP hb,gP ⟨h0,hc⟩,aLR];rfl
 |true =>
  have h1:kA (b !=0,M6.dg b.toNat):=⟨M6.aW _,fun h=>by
   have hb0:b≠0:=bne_iff_ne.1 h;show M6.val (M6.dg b.toNat)≠0;rw[M6.bJ];omega,by show(M6.dg b.toNat).length<=8192;omega⟩
  have e:zs (b !=0) b.toNat=zs true b.toNat:=by
   by_cases hb0:b=0
   ·subst hb0;rfl
   ·rw[bne_iff_ne.2 hb0]
  rw[bT]
  try dsimp only[cond_true]
  rw[gP hb,gP ⟨h1,hc⟩,aLR,e];rfl
def aH:dC:=orc3 pB (pN .u64) (pN .i64) sp
theorem ok:OK 67 aH:=(eI E aE (aA mP.ok (aA iK.ok aD)) func67).Bp rfl spec
end Pe
namespace bQ
def E:=mE [(65,bP.aH),(66,iG.aH),(67,Pe.aH)] 36 [15,33] [] []
def aE:=bd f25
theorem aU:Nk E aE:=nk
theorem start a b:aF E f25 aE [D.s (sc (int i64 a)),D.s (sc (int u64 b))]=letI H:=bif fB.iA a b then bif bP.gW a b then(0:Int)else(6:Int)else(2:Int);letI C:=aM.gY a;letI F:=(C.fst,C.snd.fst,C.snd.snd.fst,C.snd.snd.snd);letI B:=bif fB.iA a b&&bP.gW a b then b%dM.dX C else(0:Int);letI I:=iG.Es F B;letI G:=zs (fB.iA a b&&(bP.gW a b&&decide (dM.dX C<=b))) (iG.Co F B).toNat;letI A:=bif fN G I then aK G I else((0:Int),(0:Int));aQ ((a=32\/a=64)/\0<=b/\b<18446744073709551616) (aB (H !=0) (some [D.agg [sc (bool false),sc (slice none 0 0),sc (int i64 0)],D.s (sc (int i64 H))]) (aQ (aM.Bg F/\(0<=bif fB.iA a b&&bP.gW a b then b%dM.dX C else(0:Int))/\B<9223372036854775808) (aQ ((0<=iG.Co F B/\iG.Co F B<18446744073709551616)/\(-9223372036854775808:Int)<=iG.Es F B/\iG.Es F B<9223372036854775808) (some [D.agg [sc (bool (isNeg A.fst)),ints u64 (M6.dg A.fst.natAbs),sc (int i64 A.snd)],D.s (sc (int i64 (bif fN G I then(0:Int)else(5:Int))))])))):=eJ aU
def mD(f b:Int):Int:=zs (decide (dM.dX (aM.gY f)<=b)) (iG.Co (aM.gY f) (b%dM.dX (aM.gY f))).toNat
def mF(f b:Int):Int:=iG.Es (aM.gY f) (b%dM.dX (aM.gY f))
def sp(f b:Int):Prop×List D:=((f=32\/f=64)/\0<=b/\b<18446744073709551616,[dD (bif fB.iA f b&&bP.gW f b then aK (mD f b) (mF f b)else(0,0)),.s (.sc (.int .i64 (bif fB.iA f b then(bif bP.gW f b then 0 else 6)else 2)))])
theorem Tx{s:Int×Int×Int×Int}{n:Int}(_:aM.Bg s)(_:0<=n):0<=iG.Co s n/\iG.Co s n<9007199254740992:=by
 unfold iG.Co cX.lT;split <;> split <;> omega
theorem Up{s:Int×Int×Int×Int}{n:Int}(ht:aM.Bg s)(h0:0<=n)(h1:n<kW.mM s):-1074<=iG.Es s n/\iG.Es s n<1024:=by
 rcases ht with rfl |rfl
 ·unfold iG.Es;have:n<2139095040:=h1;rw[show cX.lT (32,24,-149,2143289345)=8388608 from rfl]
  try dsimp only
  split <;> omega
 ·unfold iG.Es;have:n<9218868437227405312:=h1;rw[show cX.lT (64,53,-1074,9221120237041090561)=4503599627370496 from rfl]
  try dsimp only
  split <;> omega
theorem aOJ{z e:Int}(hz:z.natAbs<9007199254740992)(h0:-1074<=e)(h1:e<1024):fN z e=true:=by
 unfold fN
 by_cases hc:z=0
 ·rw[decide_eq_true hc,bSM]
 ·have h2:=zX (n:=z.natAbs) (by omega);have h3:bl z.natAbs<=53:=dV.2 (by omega);rw[decide_eq_true (show -1048576<=e+(tz z.natAbs:Int) by omega),decide_eq_true (show e+(tz z.natAbs:Int)<=1048576 by omega),bQC,bTB]
theorem spec:Eu E f25 aE (pN .i64) (pN .u64) sp:=by
 intro f b h;have e:=(start f b).trans (gP h);have ht:=bP.Fa h.1;have hb0:0<=b:=h.2.1;unfold sp
 try dsimp only
 cases hp:fB.iA f b with
 |false =>
  rw[hp]at e;refine⟨_,e,.cons ?_ (fX.refl _)⟩;unfold dD;rw[bSL,cond_false,show((0,0):Int×Int).1.natAbs=0 from rfl,M6.bN];exact vZ.agg (.cons (yQ.refl _) (.cons (yQ.nil _) (uK.refl _)))
 |true =>
  rw[hp]at e;cases hq:bP.gW f b with
  |false =>
   rw[hq]at e;refine⟨_,e,.cons ?_ (fX.refl _)⟩;unfold dD;rw[bSO,cond_false,show((0,0):Int×Int).1.natAbs=0 from rfl,M6.bN];exact vZ.agg (.cons (yQ.refl _) (.cons (yQ.nil _) (uK.refl _)))
  |true =>
   rw[hq]at e;have Eo:0<=b%dM.dX (aM.gY f):=by
    unfold dM.dX;split <;> omega
   have qB:b%dM.dX (aM.gY f)<kW.mM (aM.gY f):=of_decide_eq_true hq;have hinf:kW.mM (aM.gY f)<=9218868437227405312:=by unfold kW.mM;split <;> omega
   have hm:=Tx ht Eo;have hx:=Up ht Eo qB;rw[show(true&&true)=true from rfl]at e
   try dsimp only[cond_true]at e
   rw[show((aM.gY f).1,(aM.gY f).2.1,(aM.gY f).2.2.1,(aM.gY f).2.2.2)=aM.gY f from rfl]at e;rw[gT rfl,gP ⟨ht,Eo,by omega⟩,gP ⟨⟨hm.1,by omega⟩,by omega,by omega⟩]at e;refine⟨_,e,?_⟩;have hi:fN (mD f b) (mF f b)=true:=aOJ (by unfold mD;rw[kD];omega) hx.1 hx.2;unfold mD mF at hi;unfold mD mF;rw[show(true&&(true&&decide (dM.dX (aM.gY f)<=b)))=decide (dM.dX (aM.gY f)<=b)from rfl,hi];exact fX.refl _
def aH:dC:=orc2 (pN .i64) (pN .u64) sp
theorem ok:OK 25 aH:=(eI E aE (aA bP.ok (aA iG.ok (aA Pe.ok aD))) func25).aBB rfl spec
end bQ
namespace Vu
def bDT(p:Int×Int):Bool:=decide (cO ((p.1.natAbs:Int),p.2) (3,-2)<=0)
end Vu
end W
namespace R
open W.Arctan
theorem zB{k w:Nat}(hk:2<=k):∀f j p m,2^w/k^(2*j+1)<4^f->m<=p->(j%2=1->m+fU k w j<=p) ->
  ∃N J,rounds k f (2^w/k^(2*j+1)) p m (2*j+1) j=(N,J)/\J<=j+f/\(N:Rat)=(p:Rat)-(m:Rat)+(sum (fun i=>sg i*(fU k w i:Rat)) J-sum (fun i=>sg i*(fU k w i:Rat)) j)/\fU k w J=0
 |0,j,p,m,h,hm,_=>by
  have h0:2^w/k^(2*j+1)=0:=by simpa using h
  refine⟨p-m,j,rfl,bNB _,?_,by unfold fU;rw[h0,bWV]⟩;have:((p-m:Nat):Rat)=(p:Rat)-(m:Rat):=by
   have e:p-m+m=p:=by omega
   have e2:((p-m:Nat):Rat)+(m:Rat)=(p:Rat):=by exact_mod_cast e
   grind
  rw[this];grind
 |f+1,j,p,m,h,hm,ho=>by
  by_cases h0:2^w/k^(2*j+1)=0
  ·refine⟨p-m,j,by unfold rounds;rw[if_pos h0],by omega,?_,by unfold fU;rw[h0,bWV]⟩;have:((p-m:Nat):Rat)=(p:Rat)-(m:Rat):=by
    have e:p-m+m=p:=by omega
    have e2:((p-m:Nat):Rat)+(m:Rat)=(p:Rat):=by exact_mod_cast e
    grind
   rw[this];grind
  ·have e1:2^w/k^(2*j+1)/k/k=2^w/k^(2*(j+1)+1):=by
    rw[bST,bST,show 2*(j+1)+1=2*j+1+1+1 by omega,bSA k (2*j+1+1),bSA k (2*j+1),bSF]
   have e2:2^w/k^(2*(j+1)+1)<4^f:=by
    rw[<-e1,bST];apply bSW;have:4<=k*k:=bXP hk hk;rw[bSA 4 f,bRZ (4^f)]at h;exact bOB h (bOO _ this)
   have e3:fU k w (j+1)<=fU k w j:=by
    unfold fU;rw[<-e1];refine bNX (Nat.div_le_div_left (by omega) (by omega)) (Nat.div_le_div_right ?_);exact bNX (bVO _ _) (bVO _ _)
   have es:sum (fun i=>sg i*(fU k w i:Rat)) (j+1)=sum (fun i=>sg i*(fU k w i:Rat)) j+sg j*(fU k w j:Rat):=cZ _ _;have ea:2^w/k^(2*j+1)/(2*j+1)=fU k w j:=rfl;unfold rounds;rw[if_neg h0,e1,ea,show 2*j+1+2=2*(j+1)+1 by omega]
   by_cases hc:(2*j+1)%4=1
   ·rw[if_pos hc];obtain⟨N,J,r1,r2,r3,r4⟩:=zB hk f (j+1) (p+fU k w j) m e2 (by omega) (fun _=>by omega);refine⟨N,J,r1,by omega,?_,r4⟩;have:sg j=1:=by unfold sg;rw[aT]
    rw[es,this]at r3;rw[bXN]at r3;grind
   ·rw[if_neg hc];have hj:=ho (by omega);obtain⟨N,J,r1,r2,r3,r4⟩:=zB hk f (j+1) p (m+fU k w j) e2 (by omega) (fun h=>by omega);refine⟨N,J,r1,by omega,?_,r4⟩;have:sg j=-1:=by unfold sg;rw[aX]
    rw[es,this]at r3;rw[bXN]at r3;grind
theorem Rt{k:Nat}(hk:2<=k){w:Nat}(hw:w<=1000000):(atan k w).2<=w+2/\ab (((atan k w).1:Rat)-((2^w:Nat):Rat)*Rs k)<=((atan k w).2:Rat)+2:=by
 have h:2^w/k^(2*0+1)<4^(w+2):=by
  rw[Hn];exact bTQ (bVO _ _) (bTU (by omega) (by omega))
 obtain⟨N,J,r1,r2,r3,r4⟩:=zB (w:=w) hk (w+2) 0 0 0 h (bNB _) (fun h=>by omega);have e:atan k w=(N,J):=by
  unfold atan;rw[<-r1];simp
 rw[e];have hJ:J<=1048576:=by omega
 have:=Yq hk w hJ r4;refine⟨by dsimp only;omega,?_⟩;dsimp only;have e0:sum (fun i=>sg i*(fU k w i:Rat)) 0=0:=rfl;rw[e0]at r3;have e1:(N:Rat)=sum (fun i=>sg i*(fU k w i:Rat)) J:=by
  have z:((0:Nat):Rat)=0:=by norm_cast
  rw[z]at r3;grind
 rw[e1];exact this
end R
namespace W
open Go AI M
namespace xO
def E:=mE [(167,fI.aH),(171,bZ.aH),(252,Io.aH)] 55 [52] [(6,[0,1,6,7,20,21])] []
def aE:=bd f230
theorem aU:Nk E aE:=nk
def L6 a b (c:Nat) (d:List Int) e f g:=nU E f230 aE 6 [gD a,cY b,yL 2 c 22 d,cY e,bR f,bR g]
theorem start a b:aF E f230 aE [D.s (ints u64 a),D.s (sc (int u64 b))]=letI A:=(a.length:Int);letI B:=A+(1:Int);aQ (a.length<=1099511627776) (aB (!fI.mY a) (some [D.s (sc (slice none 0 0)),D.s (sc (int i64 2))]) (if 0<=i64.wrap B/\i64.wrap B<=i64.wrap B/\i64.wrap B<=8796093022208 then xO.L6 a b (i64.wrap B).toNat (bPE (i64.wrap B).toNat (0:Int)) 0 A 0 else none)):=eJ aU
theorem yY a b c d e f g:L6 a b c d e f g=letI C:=a.getD g.toNat 0*b%18446744073709551616+e+0;letI B:=(a.length:Int);letI A:=d.set B.toNat e;aB (decide (g<f)) (if 0<=g/\g<B then aQ (0<=a.getD g.toNat 0/\a.getD g.toNat 0<(18446744073709551616:Int)/\0<=b/\b<18446744073709551616) (aQ (0<=a.getD g.toNat 0*b%18446744073709551616/\0<=e/\(0:Int)<=(0:Int)/\(0:Int)<=(1:Int)) (if 0<=g/\g<(c:Int)then xO.L6 a b c (d.set g.toNat (C%18446744073709551616)) (u64.wrap (a.getD g.toNat 0*b/18446744073709551616+C/18446744073709551616)) f (i64.wrap (g+1))else none))else none) (if 0<=B/\B<(c:Int)then aQ (M6.cB A/\A.length<=1099511627776) (some [D.s (ints u64 (bif bZ.kX (M6.val A)then M6.dg (M6.val A)else [])),D.s (sc (int i64 (bif bZ.kX (M6.val A)then(0:Int)else(5:Int))))])else none):=lJ aU
theorem L{a:List Int}{b:Nat}(ha:M6.cB a)(hl:a.length<=8192)(hb:b<18446744073709551616):∀(k i:Nat) (pre:List Int) (c:Nat),i+k=a.length->pre.length=i->M6.cB pre->c<18446744073709551616 ->
  M6.val pre+18446744073709551616^i*c=M6.val (a.take i)*b ->
  L6 a b (a.length+1) (pre ++ bPE (k+1) 0) c a.length i=some [D.s (.ints .u64 (bif bZ.kX (M6.val a*b)then M6.dg (M6.val a*b)else [])),D.s (.sc (.int .i64 (bif bZ.kX (M6.val a*b)then 0 else 5)))]:=by
 intro k
 induction k with
 |zero =>
  intro i pre c hi hp hd hc hv;rw[M6.cE (by omega)]at hv;have hs:(pre ++ bPE (0+1) 0).set a.length (c:Int)=pre ++ [(c:Int)]:=by
   have:=wP (pre:=pre) (i:=a.length) (k:=0) (by omega) (c:Int);simpa using this
  have hval:M6.val (pre ++ [(c:Int)])=M6.val a*b:=by
   rw[M6.lE,hp,bQX];exact hv
  have bBH:M6.cB (pre ++ [(c:Int)]):=M6.lF hd ⟨bWU _,by omega⟩;rw[yY,aI,if_pos ⟨by omega,by omega⟩,bQX,hs,gP ⟨bBH,by simp;omega⟩,hval]
 |succ k ih =>
  intro i pre c hi hp hd hc hv;have g:=ha.get i;obtain⟨x,hx⟩:=bSE g.1;have Sp:x<18446744073709551616:=by omega
  have bEN:x*b<=18446744073709551615*18446744073709551615:=bXP (by omega) (by omega);have e1:((x:Int)*(b:Int))=((x*b:Nat):Int):=by rw[bTA]
  have qA:M6.val (pre ++ [(((x*b%18446744073709551616+c)%18446744073709551616:Nat):Int)])+18446744073709551616^(i+1)*(x*b/18446744073709551616+(x*b%18446744073709551616+c)/18446744073709551616)=M6.val (a.take (i+1))*b:=by
   rw[M6.lE,hp,M6.cA,hx,bQX,bQX,Nat.add_mul,<-hv,bSA,bSF (18446744073709551616^i) x b,bSF (18446744073709551616^i) 18446744073709551616];have e:(x*b%18446744073709551616+c)%18446744073709551616+18446744073709551616*(x*b/18446744073709551616+(x*b%18446744073709551616+c)/18446744073709551616)=x*b+c:=by omega
   have e2:=congrArg (18446744073709551616^i*·) e;simp only[Nat.mul_add]at e2 ⊢;omega
  have bFP:x*b/18446744073709551616+(x*b%18446744073709551616+c)/18446744073709551616<18446744073709551616:=by omega
  have w1:u64.wrap ((x:Int)*(b:Int)/18446744073709551616+((x:Int)*(b:Int)%18446744073709551616+(c:Int)+0)/18446744073709551616)=((x*b/18446744073709551616+(x*b%18446744073709551616+c)/18446744073709551616:Nat):Int):=by
   rw[e1,wrap_u64];omega
  have w2:((x:Int)*(b:Int)%18446744073709551616+(c:Int)+0)%18446744073709551616=(((x*b%18446744073709551616+c)%18446744073709551616:Nat):Int):=by rw[e1];omega
  rw[yY,aO,if_pos ⟨by omega,by omega⟩,bQX,hx,gP ⟨by omega,by omega,by omega,by omega⟩,gP ⟨by rw[e1];omega,by omega,by omega,by omega⟩,if_pos ⟨by omega,by omega⟩,wP hp,w1,w2,wrap_i64 (n:=(i:Int)+1),show(i:Int)+1=((i+1:Nat):Int)from rfl];exact ih (i+1) _ _ (by omega) (by simp[hp]) (M6.lF hd ⟨bWU _,by omega⟩) bFP qA
def sp(a:List Int)(b:Int):Prop×List D:=(M6.cD a/\a.length<=8192/\0<=b/\b<18446744073709551616,[.s (.ints .u64 (bif bZ.kX (M6.val a*b.toNat)then M6.dg (M6.val a*b.toNat)else [])),.s (.sc (.int .i64 (bif bZ.kX (M6.val a*b.toNat)then 0 else 5)))])
theorem spec:fO E f230 aE (pI .u64) (pN .u64) sp:=by
 rintro a b ⟨ha,hl,h0,h1⟩;obtain⟨n,rfl⟩:=bSE h0;refine(start a n).trans ?_;have w:i64.wrap ((a.length:Int)+1)=((a.length+1:Nat):Int):=by rw[wrap_i64];rfl
 have:=L (b:=n) ha.iX hl (by omega) a.length 0 [] 0 (by omega) rfl M6.lW (by omega) (by simp[M6.val]);rw[gP,fI.lU ha hl,bPB,bF,w,if_pos ⟨by omega,by omega,by omega⟩,bQX];rw[bRD]at this;exact this
def aH:dC:=orc2 (pI .u64) (pN .u64) sp
theorem ok:OK 230 aH:=(eI E aE (aA fI.ok (aA bZ.ok (aA Io.ok aD))) func230).lP rfl spec
end xO
namespace Oz
def E:=mE [(126,sR.aH),(124,rE.aH),(117,mP.aH)] 26 [14,21] [] []
def aE:=bd f231
theorem aU:Nk E aE:=nk
theorem start a b:aF E f231 aE [D.s (ints u64 a),D.s (sc (int u64 b))]=letI B:=M6.dg b.toNat;letI C:=M6.val a+M6.val B;letI A:=M6.cD a/\M6.cD B/\a.length<=8192/\B.length<=8192;aQ (0<=b/\b<18446744073709551616) (aQ A (aQ (0<=b/\b<18446744073709551616) (aQ A (some [D.s (ints u64 (M6.dg (M6.val a-M6.val B))),D.s (ints u64 (bif bZ.kX C then M6.dg C else []))])))):=eJ aU
theorem aOD{v n:Nat}(hv:v<18446744073709551616^8000)(hn:n<18446744073709551616):bZ.kX (v+n)=true:=by
 unfold bZ.kX;refine decide_eq_true (bNX (M6.cR (k:=8001) ?_) (by decide));rw[bSA];have h1:1<=18446744073709551616^8000:=bQA (by decide);generalize 18446744073709551616^8000=X at *;omega
def sp(a:List Int)(b:Int):Prop×List D:=(M6.cD a/\a.length<=8000/\0<=b/\b<18446744073709551616,[.s (.ints .u64 (M6.dg (M6.val a-b.toNat))),.s (.ints .u64 (M6.dg (M6.val a+b.toNat)))])
theorem spec:fO E f231 aE (pI .u64) (pN .u64) sp:=by
 rintro a b ⟨hn,hl,h0,h1⟩;have hb:b.toNat<18446744073709551616:=by omega
 have lb:(M6.dg b.toNat).length<=1:=M6.cR (k:=1) (by rw[Nat.pow_one];exact hb);refine(start a b).trans ?_;have lv:=M6.cK hn.iX;have ok:bZ.kX (M6.val a+b.toNat)=true:=aOD (bOB lv (bQB (by decide) hl)) hb;rw[gP ⟨h0,h1⟩,gP ⟨hn,M6.aW _,by omega,by omega⟩,gP ⟨h0,h1⟩,gP ⟨hn,M6.aW _,by omega,by omega⟩,M6.bJ,ok];rfl
def aH:dC:=orc2 (pI .u64) (pN .u64) sp
theorem ok:OK 231 aH:=(eI E aE (aA sR.ok (aA rE.ok (aA mP.ok aD))) func231).lP rfl spec
end Oz
namespace jV
def E:=mE [(229,dA.aH),(230,xO.aH),(126,sR.aH),(231,Oz.aH)] 45 [42] [] []
def aE:=bd f203
theorem aU:Nk E aE:=nk
theorem start a:aF E f203 aE [D.s (sc (int i64 a))]=letI K:=Arctan.atan (cAV 5) a.toNat;letI I:=Arctan.atan (cAV 239) a.toNat;letI F:=M6.dg K.fst;letI G:=bif bZ.kX (M6.val F*16)then M6.dg (M6.val F*16)else [];letI C:=M6.dg I.fst;letI H:=bif bZ.kX (M6.val C*4)then M6.dg (M6.val C*4)else [];letI B:=u64.wrap ((16:Int)*(↑((2:Nat)+(3:Nat)*K.snd):Int))+u64.wrap ((4:Int)*(↑((2:Nat)+(3:Nat)*I.snd):Int));letI A:=M6.dg (M6.val G-M6.val H);aQ (((2:Int)<=(5:Int)/\(5:Int)<(4294967296:Int))/\0<=a/\a<=150000) (aQ (((2:Int)<=(239:Int)/\(239:Int)<(4294967296:Int))/\0<=a/\a<=150000) (aQ (M6.cD F/\F.length<=8192/\(0:Int)<=(16:Int)/\(16:Int)<(18446744073709551616:Int)) (aQ (M6.cD C/\C.length<=8192/\(0:Int)<=(4:Int)/\(4:Int)<(18446744073709551616:Int)) (aQ (M6.cD G/\M6.cD H/\G.length<=8192/\H.length<=8192) (aQ (M6.cD A/\A.length<=8000/\0<=u64.wrap B/\u64.wrap B<18446744073709551616) (some [D.s (ints u64 (M6.dg (M6.val A-(u64.wrap B).toNat))),D.s (ints u64 (M6.dg (M6.val A+(u64.wrap B).toNat)))])))))):=eJ aU
def mX(w:Nat):Nat:=(Arctan.atan 5 w).1*16-(Arctan.atan 239 w).1*4
def mO(w:Nat):Nat:=16*(2+3*(Arctan.atan 5 w).2)+4*(2+3*(Arctan.atan 239 w).2)
theorem aMI(w:Nat):mO w<=60*w+160:=by
 have h1:=(Arctan.Ba 5 w).2;have h2:=(Arctan.Ba 239 w).2;unfold mO;omega
def sp(w:Int):Prop×List D:=(0<=w/\w<=150000,[.s (.ints .u64 (M6.dg (mX w.toNat-mO w.toNat))),.s (.ints .u64 (M6.dg (mX w.toNat+mO w.toNat)))])
theorem spec:gO E f203 aE (pN .i64) sp:=by
 rintro w ⟨h0,h1⟩;refine(start w).trans ?_;obtain⟨q,rfl⟩:=bSE h0;have a1:=Arctan.Ba 5 q;have a2:=Arctan.Ba 239 q;have hO:=aMI q;unfold sp;have k1:cAV 5=5:=rfl;have k2:cAV 239=239:=rfl;simp only[bQX,k1,k2,M6.bJ];have eO:u64.wrap (u64.wrap (16*((2+3*(Arctan.atan 5 q).2:Nat):Int))+u64.wrap (4*((2+3*(Arctan.atan 239 q).2:Nat):Int)))=((mO q:Nat):Int):=by
  rw[wrap_u64 (n:=16*_),wrap_u64 (n:=4*_),wrap_u64];unfold mO;omega
 rw[eO];have hX:mX q<=(Arctan.atan 5 q).1*16:=bTZ _ _;unfold mX at hX ⊢;generalize (Arctan.atan 5 q).1=a at *;generalize (Arctan.atan 239 q).1=b at *;have hp:2^(2*q+4+4)=16*2^(2*q+4):=by rw[bSD];omega
 have b1:a*16<2^(2*q+4+4):=by rw[hp];omega
 have b2:b*4<2^(2*q+4+4):=by rw[hp];omega
 have b3:a*16-b*4<2^(2*q+4+4):=by omega
 have l3:(M6.dg (a*16-b*4)).length<=8000:=eZ (k:=8000) (bNX (dV.2 b3) (by omega));rw[gP ⟨⟨by decide,by decide⟩,by omega,by omega⟩,gP ⟨⟨by decide,by decide⟩,by omega,by omega⟩,gP ⟨M6.aW _,dA.jX a1.1 (by omega),by decide,by decide⟩,gP ⟨M6.aW _,dA.jX a2.1 (by omega),by decide,by decide⟩,
  dA.aMD b1 (by omega),dA.aMD b2 (by omega),cond_true,cond_true]
 simp only[M6.bJ,bQX];rw[gP ⟨M6.aW _,M6.aW _,dA.jX b1 (by omega),dA.jX b2 (by omega)⟩,gP ⟨M6.aW _,l3,by omega,by omega⟩]
open R in
theorem num {w:Nat} (bGE:40<=w) (hw:w<=1000000):R.ab ((mX w:Rat)-((2^w:Nat):Rat)*R.pi)<=(mO w:Rat):=by
 obtain⟨j1,e1⟩:=R.Rt (k:=5) (by decide) hw;obtain⟨j2,e2⟩:=R.Rt (k:=239) (by decide) hw;have hp:=R.iO.1;have hW:(1099511627776:Rat)<=((2^w:Nat):Rat):=by
  have:2^40<=2^w:=bQB (by decide) bGE;exact_mod_cast this
 have hO:(mO w:Rat)=16*(2+3*((Arctan.atan 5 w).2:Rat))+4*(2+3*((Arctan.atan 239 w).2:Rat)):=by
  unfold mO
  push_cast
  rfl
 have hJ1:((Arctan.atan 5 w).2:Rat)<=1000002:=by exact_mod_cast bNX j1 (by omega)
 have hJ2:((Arctan.atan 239 w).2:Rat)<=1000002:=by exact_mod_cast bNX j2 (by omega)
 have aBI:(0:Rat)<=((Arctan.atan 5 w).2:Rat):=by exact_mod_cast bTF _
 have aUK:(0:Rat)<=((Arctan.atan 239 w).2:Rat):=by exact_mod_cast bTF _
 rw[hO];clear hO;have h3:0<=R.pi-3:=by grind
 have hm:=R.aG (bSH (by decide:(0:Rat)<=1099511627776) hW) h3;have aUA:((2^w:Nat):Rat)*R.pi=16*(((2^w:Nat):Rat)*R.Rs 5)-4*(((2^w:Nat):Rat)*R.Rs 239):=by
  rw[show R.pi=16*R.Rs 5-4*R.Rs 239 from rfl];grind
 have hm2:3*((2^w:Nat):Rat)<=((2^w:Nat):Rat)*R.pi:=by grind
 rw[R.cT]at e1 e2 ⊢;have bLJ:(mX w:Rat)=((mX w:Nat):Rat):=rfl;unfold mX;generalize ((2^w:Nat):Rat)*R.pi=WP at *;generalize ((2^w:Nat):Rat)*R.Rs 5=W5 at *;generalize ((2^w:Nat):Rat)*R.Rs 239=W2 at *;generalize ((2^w:Nat):Rat)=W at *;clear hm h3 hp bLJ;generalize ((Arctan.atan 5 w).2:Rat)=J1 at *;generalize ((Arctan.atan 239 w).2:Rat)=J2 at *;generalize (Arctan.atan 5 w).1=a at *;generalize (Arctan.atan 239 w).1=b at *;have hle:b*4<=a*16:=by
  have:(b:Rat)*4<=(a:Rat)*16:=by
   obtain⟨e3,e4⟩:=e1;obtain⟨e5,e6⟩:=e2;grind
  exact_mod_cast this
 have hX:((a*16-b*4:Nat):Rat)=(a:Rat)*16-(b:Rat)*4:=by
  have e:(a*16-b*4)+b*4=a*16:=by omega
  have e':((a*16-b*4:Nat):Rat)+(b:Rat)*4=(a:Rat)*16:=by exact_mod_cast e
  grind
 rw[hX];obtain⟨e3,e4⟩:=e1;obtain⟨e5,e6⟩:=e2;constructor <;> grind
def aH:dC:=orc1 (pN .i64) sp
theorem ok:OK 203 aH:=(eI E aE (aA dA.ok (aA xO.ok (aA sR.ok (aA Oz.ok aD)))) func203).nD rfl spec
end jV
namespace uJ
def E:=mE [(203,jV.aH),(115,Bm.aH),(125,Dn.aH)] 39 [19,25] [(5,[0,4]),(3,[0])] [3]
def aE:=bd f162
theorem aU:Nk E aE:=nk
def J3 a:=lD E f162 aE 3 [bR a]
def L5 a b:=nU E f162 aE 5 [bR a,bR b]
theorem start a:aF E f162 aE [D.s (sc (int i64 a))]=letI A:=some [D.s (sc (slice none 0 0)),D.s (sc (int i64 1))];aB (decide (a<1)) A (aB (decide (70000<a)) A (uJ.J3 a)):=eJ aU
theorem gL a:J3 a=uJ.L5 a 48:=cJ aU
theorem Ys a b:L5 a b=letI G:=i64.wrap (a+b);letI B:=M6.dg (jV.mX G.toNat+jV.mO G.toNat);letI F:=M6.dg (M6.val B/(2:Nat)^b.toNat);letI A:=M6.dg (jV.mX G.toNat-jV.mO G.toNat);letI C:=M6.dg (M6.val A/(2:Nat)^b.toNat);aQ (0<=i64.wrap (a+b)/\i64.wrap (a+b)<=150000) (aQ (M6.cD A/\A.length<=8192/\0<=b/\b<4611686018427387904) (aQ (M6.cD B/\B.length<=8192/\0<=b/\b<4611686018427387904) (aQ (M6.cB C/\M6.cB F/\C.length<=1099511627776/\F.length<=1099511627776) (aB (nB (M6.val C) (M6.val F)==0) (some [D.s (ints u64 C),D.s (sc (int i64 0))]) (uJ.L5 a (i64.wrap (b*2))))))):=lJ aU
def sp(p:Int):Prop×List D:=(1<=p/\p<=70000,[.s (.ints .u64 (M6.dg (R.pF p.toNat))),.s (.sc (.int .i64 0))])
theorem aTD(w:Nat):jV.mX w<2^(2*w+8):=by
 have a1:=Arctan.Ba 5 w;have hp:2^(2*w+8)=16*2^(2*w+4):=by rw[show 2*w+8=2*w+4+4 by omega,bSD];omega
 have:jV.mX w<=(Arctan.atan 5 w).1*16:=bTZ _ _;omega
theorem spec:gO E f162 aE (pN .i64) sp:=by
 rintro p ⟨h0,h1⟩;refine(start p).trans ?_;obtain⟨q,rfl⟩:=bSE (show 0<=p by omega);have hX:=jV.num (w:=q+48) (by omega) (by omega);have hO:=jV.aMI (q+48);have lX:=aTD (q+48);have bLZ:2*jV.mO (q+48)<=2^(48-24):=by
  have:2^(48-24)=16777216:=by decide
  omega
 obtain⟨o1,o2,o3⟩:=R.aSS (q:=q) (g:=48) (by omega) (by omega) bLZ hX;have ew:i64.wrap ((q:Int)+48)=((q+48:Nat):Int):=by rw[wrap_i64];omega
 unfold sp;rw[aI,aI,gL,Ys,ew,bQX,bQX];have hp:2^(2*(q+48)+9)=2*2^(2*(q+48)+8):=by rw[bSA];omega
 have bGE:2^40<=2^(2*(q+48)+8):=fY;have l1:=dA.jX (n:=jV.mX (q+48)-jV.mO (q+48)) (k:=2*(q+48)+8) (by omega) (by omega);have l2:=dA.jX (n:=jV.mX (q+48)+jV.mO (q+48)) (k:=2*(q+48)+9) (by omega) (by omega);rw[gP ⟨by omega,by omega⟩,gP ⟨M6.aW _,l1,by decide,by decide⟩,gP ⟨M6.aW _,l2,by decide,by decide⟩];simp only[M6.bJ,show cAV 48=48 from rfl,o2,o3];have l3:(M6.dg (R.pF q)).length<=8192:=by
  rw[<-o2];exact dA.jX (k:=2*(q+48)+8) (bTQ (bVO _ _) (by omega)) (by omega)
 rw[gP ⟨M6.iP _,M6.iP _,by omega,by omega⟩,cF (by unfold nB;simp)]
def aH:dC:=orc1 (pN .i64) sp
theorem ok:OK 162 aH:=(eI E aE (aA jV.ok (aA Bm.ok (aA Dn.ok aD))) func162).nD rfl spec
end uJ
namespace aHZ
def bMF(p:Int×Int)(n:Int):Int:=if 0<=p.2+n then p.1*((2^(p.2+n).toNat:Nat):Int)else p.1/((2^(-p.2-n).toNat:Nat):Int)
end aHZ
namespace aWO
def bCT(w:Int)(neg:Bool)(u v:Nat):Nat:=u/v+bif oF.oA w neg (decide (u/v%2=1)) (decide (u%v≠0)) (nB (u%v) (v-u%v))then 1 else 0
end aWO
namespace aHY
def aYM(p:Int×Int):Int:=if 0>p.2+(bl p.1.natAbs:Nat)then 0 else p.2+(bl p.1.natAbs:Nat)
def rG(p:Int×Int)(w:Int):Int:=w+aYM p+8
def rF(p:Int×Int)(w:Int):Nat:=R.pF (rG p w).toNat
def rX(p:Int×Int)(w:Int):Int:=aHZ.bMF p (rG p w)*2
def nK(X:Int)(f:Nat):Int:=zs (isNeg X) (aWO.bCT 2 false X.natAbs f)
def rK(p:Int×Int)(w:Int):Int:=nK (rX p w) (rF p w)
def rR(p:Int×Int)(w:Int):Int:=rX p w-rK p w*(rF p w:Nat)
def rO(p:Int×Int)(w:Int):Int:=((rK p w).natAbs:Nat)+3
def rM(p:Int×Int)(w:Int):Int:=(rR p w-rO p w)/((2^(rG p w-w+1).toNat:Nat):Int)
theorem aLC{n k m:Nat}(h:bl n<=m):bl (n*2^k)<=m+k:=dV.2 (by rw[bSD];exact Nat.mul_lt_mul_of_pos_right (dV.1 h) (bQA (by decide)))
end aHY
namespace aLK
def E:=mE [(112,gJ.aH),(165,Dk.aH),(126,sR.aH),(123,xP.aH)] 60 [28,50,57] [(3,[2,3,4])] [3]
def aE:=bd f131
theorem aU:Nk E aE:=nk
def J3 a b c d e:=lD E f131 aE 3 [dG 0 27 [cG a,eM b],dG 1 27 [cG c,eM d],dG 2 27 [cG e,sc (slice none 0 0)]]
theorem start a b c d:aF E f131 aE [D.agg [sc (bool a),ints u64 b],D.agg [sc (bool c),ints u64 d]]=letI A:=some [D.agg [sc (bool false),sc (slice none 0 0)],D.s (sc (int i64 2))];aQ (b.length<=1099511627776) (aB (!gJ.qL (a,b)) A (aQ (d.length<=1099511627776) (aB (!gJ.qL (c,d)) A (aLK.J3 a b c d false)))):=eJ aU
theorem gL a b c d e:J3 a b c d e=letI A:=M6.dg (M6.val b%M6.val d);letI F:=M6.dg (M6.val d-M6.val A);letI C:=bif (if M6.val d<M6.val A then(3:Int)else(0:Int))==0 then zs c (M6.val F)else(0:Int);letI B:=aQ (M6.cD A/\A.length<=1099511627776) (some [D.agg [sc (bool (isNeg (zs c (M6.val A)))),ints u64 (M6.dg (zs c (M6.val A)).natAbs)],D.s (sc (int i64 0))]);aB ((d.length:Int)==(0:Int)) (some [D.agg [sc (bool false),sc (slice none 0 0)],D.s (sc (int i64 4))]) (aQ (M6.cD b/\b.length<=8192/\M6.cD d/\1<=d.length/\d.length<=8192) (aB (a !=c) (aB (decide (0<(A.length:Int))) (aQ (M6.cD d/\M6.cD A/\d.length<=8192/\A.length<=8192) (aQ (M6.cD F/\F.length<=1099511627776) (some [D.agg [sc (bool (isNeg C)),ints u64 (M6.dg C.natAbs)],D.s (sc (int i64 (if M6.val d<M6.val A then(3:Int)else(0:Int))))]))) B) B)):=cJ aU
def sp(x y:Bool×List Int):Prop×List D:=(kA x/\kA y/\y.1=false/\1<=y.2.length,[wD (wv x%wv y),.s (.sc (.int .i64 0))])
theorem spec:fO E f131 aE wB wB sp:=by
 rintro x y ⟨hx,hy,hn,h1⟩;refine(start x.1 x.2 y.1 y.2).trans ?_;have l1:=hx.len;have l2:=hy.len;have f1:=gJ.nL hx;have f2:=gJ.nL hy;have b2:=hy.bl;obtain⟨p,a⟩:=x;obtain⟨q,b⟩:=y;have n1:M6.cD a:=hx.1;have n2:M6.cD b:=hy.1
 try dsimp only at *
 subst hn;unfold sp
 try dsimp only
 have hz:M6.val b≠0:=fun h=>by have:=(M6.cS n2).2 h;omega
 have hm:=bPJ (M6.val a) (show 0<M6.val b by omega);have hl:=eZ (n:=M6.val a%M6.val b) (k:=8192) (bNX (gU (Nat.le_of_lt hm)) b2);have aXK:=eZ (n:=M6.val b-M6.val a%M6.val b) (k:=8192) (bNX (gU (bTZ _ _)) b2);have hb:wv (false,b)=(M6.val b:Int):=Bt (x:=(false,b)) rfl;have zf:∀n:Nat,zs false n=(n:Int):=fun n=>rfl
 rw[gP,f1,bPB,bF,gP,f2,bPB,bF,gL,bS,gP ⟨n1,l1,n2,h1,l2⟩];simp only[M6.bJ];cases p with
 |false =>
  have ha:wv (false,a)=(M6.val a:Int):=Bt (x:=(false,a)) rfl;rw[show(false !=false)=false from rfl,bF,gP ⟨M6.aW _,by omega⟩,ha,hb,<-Int.natCast_emod];rfl
 |true =>
  have ha:wv (true,a)=-(M6.val a:Int):=Lu (x:=(true,a)) rfl;rw[show(true !=false)=true from rfl,bT]
  by_cases hr:M6.val a%M6.val b=0
  ·have e0:-(M6.val a:Int)%(M6.val b:Int)=0:=by
    have aKB:=bSI (M6.val a) (M6.val b);rw[hr,bOC]at aKB;rw[<-aKB,bTA,<-Int.mul_neg];exact Int.mul_emod_right _ _
   rw[hr,M6.bN,aI (by simp),gP ⟨M6.Ak,by simp⟩,ha,hb,e0];rfl
  ·have hd:(M6.dg (M6.val a%M6.val b)).length≠0:=fun h=>hr (M6.fZ.1 h)
   have e0:-(M6.val a:Int)%(M6.val b:Int)=((M6.val b-M6.val a%M6.val b:Nat):Int):=by
    have aKB:=bSI (M6.val a) (M6.val b);have e1:-(M6.val a:Int)=((M6.val b-M6.val a%M6.val b:Nat):Int)+(M6.val b:Int)*(-(((M6.val a/M6.val b+1:Nat)):Int)):=by
     have e2:((M6.val b*(M6.val a/M6.val b)+M6.val a%M6.val b:Nat):Int)=(M6.val a:Int):=by rw[aKB]
     rw[cAY,bTA]at e2;rw[Int.mul_neg,cAY,Int.mul_add];generalize M6.val a%M6.val b=r at *;generalize (M6.val b:Int)*((M6.val a/M6.val b:Nat):Int)=z at *;omega
    rw[e1,Int.add_mul_emod_self_left];exact Int.emod_eq_of_lt (by omega) (by omega)
   rw[aO,gP ⟨n2,M6.aW _,l2,hl⟩,gP ⟨M6.aW _,by omega⟩,aX,ha,hb,e0];rfl
def aH:dC:=orc2 wB wB sp
theorem ok:OK 131 aH:=(eI E aE (aA gJ.ok (aA Dk.ok (aA sR.ok (aA xP.ok aD)))) func131).lP rfl spec
end aLK
namespace zP
def E:=mE [(112,gJ.aH)] 40 [] [(8,[1,4])] [8]
def aE:=bd f132
theorem aU:Nk E aE:=nk
def J8 a b c:=lD E f132 aE 8 [dG 0 27 [cG a,eM b],cY c]
theorem start a b:aF E f132 aE [D.agg [sc (bool a),ints u64 b]]=letI F:=zP.J8 a b (b.getD 0 0);letI C:=(b.length:Int);letI B:=sc (int i64 0);letI A:=some [D.s B,D.s (sc (int i64 5))];aQ (b.length<=1099511627776) (aB (!gJ.qL (a,b)) (some [D.s B,D.s (sc (int i64 2))]) (aB (C==(0:Int)) (some [D.s B,D.s B]) (if(0:Int)<=(0:Int)/\0<C then aB (decide (1<C)) A (aB (decide (9223372036854775808<b.getD 0 0)) A (aB (b.getD 0 0==(9223372036854775808:Int)) (aB (!a) A F) F))else none))):=eJ aU
theorem vW a b c:J8 a b c=aB a (some [D.s (sc (int i64 (i64.wrap (u64.wrap ((0:Int)-c))))),D.s (sc (int i64 0))]) (some [D.s (sc (int i64 (i64.wrap c))),D.s (sc (int i64 0))]):=cJ aU
def uO(z:Int):Bool:=decide (-9223372036854775808<=z)&&decide (z<9223372036854775808)
def sp(x:Bool×List Int):Prop×List D:=(kA x,[.s (.sc (.int .i64 (bif uO (wv x)then wv x else 0))),.s (.sc (.int .i64 (bif uO (wv x)then 0 else 5)))])
theorem spec:gO E f132 aE wB sp:=by
 intro x h;have h:kA x:=h;refine(start x.1 x.2).trans ?_;obtain⟨b,a⟩:=x;have hl:a.length<=8192:=h.len;have h1:M6.cD a:=h.1;have g:=h1.iX.get 0;have hf:=gJ.nL h
 try dsimp only
 unfold sp
 try dsimp only
 rw[gP,hf,bPB,bF];have yes:∀z:Int,-9223372036854775808<=z->z<9223372036854775808->uO z=true:=fun z h h'=>by unfold uO;rw[decide_eq_true h,decide_eq_true h'];rfl
 have no:∀z:Int,(z < -9223372036854775808\/9223372036854775808<=z)->uO z=false:=fun z h=>by
  unfold uO;rcases h with h |h
  ·rw[decide_eq_false (by omega),bSL]
  ·rw[decide_eq_false (show ¬z<_ by omega),bSO]
 by_cases hz:a.length=0
 ·have hv:=(M6.cS h1).1 hz;have:wv (b,a)=0:=by
   have:=iZ (b,a);rw[show M6.val (b,a).2=0 from hv]at this;omega
  rw[cF,this];rfl
 ·rw[bS,if_pos ⟨by omega,by omega⟩];have aZO:M6.val a≠0:=fun h=>hz ((M6.cS h1).2 h)
  have aEY:=iZ (b,a)
  try dsimp only at aEY
  by_cases h2:1<a.length
  ·have yS:18446744073709551616<=M6.val a:=by
    have:=M6.yC (n:=M6.val a) (k:=1) (by rw[aDM h1];exact h2);omega
   rw[aO,no _ (by omega)];rfl
  ·have hv:M6.val a=(a.getD 0 0).toNat:=by
    have:=M6.cA (a:=a) 0;rw[M6.cE (by omega)]at this;simpa [M6.val] using this
   rw[aI];generalize a.getD 0 0=w at *
   by_cases h3:9223372036854775808<w
   ·rw[aO h3,no _ (by omega)];rfl
   ·rw[aI h3,vW];cases b with
    |true =>
     have hw:wv (true,a)=-(M6.val a:Int):=Lu (x:=(true,a)) rfl;have e1:i64.wrap (u64.wrap (0-w))=wv (true,a):=by rw[hw,eG,Dq];omega
     rw[yes _ (by omega) (by omega),bPB,bF,bT,e1];unfold aB;cases (w==9223372036854775808) <;> rfl
    |false =>
     have hw:wv (false,a)=(M6.val a:Int):=Bt (x:=(false,a)) rfl;rw[bYZ,bT,bF]
     by_cases h4:w=9223372036854775808
     ·rw[cF h4,no _ (by omega)];rfl
     ·rw[bS h4,yes _ (by omega) (by omega),wrap_i64];rw[show w=wv (false,a)from by omega];rfl
def aH:dC:=orc1 wB sp
theorem ok:OK 132 aH:=(eI E aE (aA gJ.ok aD) func132).nD rfl spec
end zP
namespace rJ
def aRV(b:Int):Int×Int:=aK (bQ.mD 64 b) (bQ.mF 64 b)
def cW(p:Int):Int:=if 72>p+8 then 72 else p+8
def cM(x:Int×Int)(p:Int):Int:=aHY.rM x (cW p)/((2^(cW p-(p+8)).toNat:Nat):Int)
def bGL(x:Int×Int)(p:Int):Int×Int:=bif Vu.bDT x then x else aK (cM x p) (-(p+8))
def bGM(x:Int×Int)(p:Int):Int×Int:=bif Vu.bDT x then x else aK (cM x p+4) (-(p+8))
end rJ
end W
namespace M
open Go AI W
theorem aBW{q:Rat}{a b:Int}(h1:R.pz a<=q)(h2:q<R.pz (a+1))(h3:R.pz b<=q)(h4:q<R.pz (b+1)):a=b:=by
 have:R.pz a<R.pz (b+1):=by grind
 have:=R.xX.1 this;have:R.pz b<R.pz (a+1):=by grind
 have:=R.xX.1 this;omega
theorem aNO{p q:Int×Int}(hp:p.1≠0)(h:R.qz p=R.qz q):bB p=bB q:=by
 have hq:q.1≠0:=Kt (by rw[<-h];exact aLY hp);obtain⟨a,b⟩:=rU hp;obtain⟨c,d⟩:=rU hq;rw[h]at a b;exact aBW a b c d
structure aRA(z e:Int):Prop where
 z0:z≠0
 z1:z.natAbs<9007199254740992
 e0:-1074<=e
 e1:e<=971
theorem aLI(z:Int):R.ab (z:Rat)=(z.natAbs:Rat):=by
 unfold R.ab
 by_cases hz:0<=z
 ·rw[if_pos (by exact_mod_cast hz),<-bXT];congr 1;omega
 ·rw[if_neg (by intro hc;exact hz (by exact_mod_cast hc)),<-bXT,<-bYC];congr 1;omega
structure aWV(x:Int×Int):Prop where
 uS:jG x
 ne:x.1≠0
 bl:bl x.1.natAbs<=53
 t0:-1074<=bB x
 t1:bB x<=1023
 e0:-1074<=x.2
 e1:x.2<=1023
 fit:R.Fit (R.qz x)
 bCX:¬R.ab (R.qz x)<=3/4->-53<=x.2/\R.bDH (R.qz x)
theorem bCU{z e:Int}(h:aRA z e):aWV (aK z e):=by
 obtain⟨z0,z1,e0,e1⟩:=h;have bz:bl z.natAbs<=53:=dV.2 (by have:(2:Nat)^53=9007199254740992:=rfl;omega);have b0:=sE (n:=z.natAbs) (by omega);have q:=mT z e;have q':R.qz (aK z e)=R.qz (z,e):=q;have ne:(aK z e).1≠0:=fun hz=>z0 (dT.1 hz)
 have tt:=aNO ne q';have t':bB (z,e)=e+(bl z.natAbs:Nat)-1:=rfl;have ge:=nJ (e:=e) z0;have bb:=qV z e;have b1:=sE (n:=(aK z e).1.natAbs) (by omega);have te:bB (aK z e)=(aK z e).2+(bl (aK z e).1.natAbs:Nat)-1:=rfl;have uS:jG (aK z e):=fM (fP (by omega) (by omega)) (by omega);have num:¬R.ab (R.qz (aK z e))<=3/4->-53<=e/\R.bDH (R.qz (aK z e)):=by
  intro hb;have he:-53<=e:=by
   refine Int.not_lt.1 fun hn=>hb ?_
   have h2:=(rU (p:=(z,e)) z0).2;have:R.pz (bB (z,e)+1)<=R.pz (-1):=R.dR (by omega);have p1:R.pz (-1)*2=1:=by
    have:=R.pU 0;rw[R.fS]at this;exact this
   rw[q'];grind
  refine⟨he,(z.natAbs:Int),e,by omega,by omega,he,e1,?_⟩;rw[q',bXT,<-aLI];show(z:Rat)*R.pz e=_\/(z:Rat)*R.pz e=_;unfold R.ab;split
  ·left;rfl
  ·right;grind
 refine⟨uS,ne,by omega,by omega,by omega,by omega,by omega,?_,fun hb=>⟨by have:=(num hb).1;omega,(num hb).2⟩⟩
 by_cases c:R.ab (R.qz (aK z e))<=3/4
 ·exact Or.inr c
 ·exact Or.inl (num c).2
end M
namespace AI
open Go Go.RowKit
def t2{β:Type}(x y:β):Nat->β
 |0=>x
 |_+1=>y
def t4{β:Type}(x y z u:β):Nat->β
 |0=>x
 |1=>y
 |2=>z
 |_+3=>u
def bEA{β:Type}(p:SPar β)(d:β):kR (β) where
 put x:=.rows p.n 1 fun _=>p.put x
 get
  | .rows sz n g=>if n=1/\sz=p.n then(p.get (g 0)).bind fun x=>some x else none
  |_=>none
 le:=by
  intro dd x h
  match dd,h with
  | .rows sz n g,h =>
   dsimp only at h;split at h
   ·rename_i hc;obtain⟨rfl,hc⟩:=hc;simp only[bPI]at h;obtain⟨y0,h0,h⟩:=h;cases h;have xB:allB 1 (fun i=>(p.get (g i)).isSome)=true:=by simp[allB,h0]
    have e:=(pR p d).le (d:=.rows sz 1 g) (x:=(1,fun i=>(p.get (g i)).getD d)) (if_pos ⟨hc,xB⟩);rintro Y w v hv;obtain⟨A,c,e1,e2,e3⟩:=e Y w v hv;refine⟨A,c,e1,e2,fun i hi=>?_⟩;have e4:=e3 i hi;obtain rfl:i=0:=by omega
    dsimp only at e4;rw[h0]at e4;exact e4
   ·cases h
def aBD{β:Type}(p:SPar β)(d:β):kR (β×β) where
 put x:=.rows p.n 2 fun i=>p.put (t2 x.1 x.2 i)
 get
  | .rows sz n g=>if n=2/\sz=p.n then(p.get (g 0)).bind fun x=>(p.get (g 1)).bind fun y=>some (x,y)else none
  |_=>none
 le:=by
  intro dd x h
  match dd,h with
  | .rows sz n g,h =>
   dsimp only at h;split at h
   ·rename_i hc;obtain⟨rfl,hc⟩:=hc;simp only[bPI]at h;obtain⟨y0,h0,y1,h1,h⟩:=h;cases h;have xB:allB 2 (fun i=>(p.get (g i)).isSome)=true:=by simp[allB,h0,h1]
    have e:=(pR p d).le (d:=.rows sz 2 g) (x:=(2,fun i=>(p.get (g i)).getD d)) (if_pos ⟨hc,xB⟩);rintro Y w v hv;obtain⟨A,c,e1,e2,e3⟩:=e Y w v hv;refine⟨A,c,e1,e2,fun i hi=>?_⟩;have e4:=e3 i hi;obtain rfl |rfl:i=0\/i=1:=by omega
    ·dsimp only at e4;rw[h0]at e4;exact e4
    ·dsimp only at e4;rw[h1]at e4;exact e4
   ·cases h
def aMB{β:Type}(p:SPar β)(d:β):kR (β×β×β×β) where
 put x:=.rows p.n 4 fun i=>p.put (t4 x.1 x.2.1 x.2.2.1 x.2.2.2 i)
 get
  | .rows sz n g=>if n=4/\sz=p.n then(p.get (g 0)).bind fun x=>(p.get (g 1)).bind fun y=>(p.get (g 2)).bind fun z=>(p.get (g 3)).bind fun u=>some (x,y,z,u)else none
  |_=>none
 le:=by
  intro dd x h
  match dd,h with
  | .rows sz n g,h =>
   dsimp only at h;split at h
   ·rename_i hc;obtain⟨rfl,hc⟩:=hc;simp only[bPI]at h;obtain⟨y0,h0,y1,h1,y2,h2,y3,h3,h⟩:=h;cases h;have xB:allB 4 (fun i=>(p.get (g i)).isSome)=true:=by simp[allB,h0,h1,h2,h3]
    have e:=(pR p d).le (d:=.rows sz 4 g) (x:=(4,fun i=>(p.get (g i)).getD d)) (if_pos ⟨hc,xB⟩);rintro Y w v hv;obtain⟨A,c,e1,e2,e3⟩:=e Y w v hv;refine⟨A,c,e1,e2,fun i hi=>?_⟩;have e4:=e3 i hi;obtain rfl |rfl |rfl |rfl:i=0\/i=1\/i=2\/i=3:=by omega
    ·dsimp only at e4;rw[h0]at e4;exact e4
    ·dsimp only at e4;rw[h1]at e4;exact e4
    ·dsimp only at e4;rw[h2]at e4;exact e4
    ·dsimp only at e4;rw[h3]at e4;exact e4
   ·cases h
end AI
namespace W
open Go AI M
namespace xK
def E:=mE [] 9 [] [] []
def aE:=bd f98
theorem aU:Nk E aE:=nk
theorem start a:aF E f98 aE [D.s (sc (int i64 a))]=aB (decide (1<=a)) (some [D.s (sc (bool (decide (a<=70000))))]) (some [D.s (sc (bool false))]):=eJ aU
def sp(p:Int):Prop×List D:=(True,[.s (.sc (.bool (decide (1<=p)&&decide (p<=70000))))])
theorem spec:gO E f98 aE (pN .i64) sp:=by
 intro p h;refine(start p).trans ?_;unfold sp aB;cases (decide ((1:Int)<=p)) <;> rfl
def aH:dC:=orc1 (pN .i64) sp
theorem ok:OK 98 aH:=(eI E aE aD func98).nD rfl spec
end xK
namespace vH
def E:=mE [(98,xK.aH),(45,sK.aH)] 20 [] [(4,[10,11,12])] []
def aE:=bd f40
theorem aU:Nk E aE:=nk
def L4(a:Nat)(b:Nat->Bool)(c:Nat->List Int)(d:Nat->Int)(e:Nat->Bool)(f:Nat->List Int)(g:Nat->Int) x7 h:=nU E f40 aE 4 [(A.v (V.one (L.rows 6 a fun i=>[sc (bool (b i)),ints u64 (c i),sc (int i64 (d i)),sc (bool (e i)),ints u64 (f i),sc (int i64 (g i))])),none),bR x7,bR h]
theorem start p (a:rQ) (b:rQ):aF E f40 aE [D.s (sc (int i64 p)),D.rows 6 2 fun i=>[sc (bool (t2 a b i).fst),ints u64 (t2 a b i).snd.fst,sc (int i64 (t2 a b i).snd.snd.fst),sc (bool (t2 a b i).snd.snd.snd.fst),ints u64 (t2 a b i).snd.snd.snd.snd.fst,sc (int i64 (t2 a b i).snd.snd.snd.snd.snd)]]=aQ True (aB (!(decide (1<=p)&&decide (p<=70000))) (some [D.s (sc (int i64 1))]) (vH.L4 2 (fun i=>(t2 a b i).fst) (fun i=>(t2 a b i).snd.fst) (fun i=>(t2 a b i).snd.snd.fst) (fun i=>(t2 a b i).snd.snd.snd.fst) (fun i=>(t2 a b i).snd.snd.snd.snd.fst) (fun i=>(t2 a b i).snd.snd.snd.snd.snd) 2 0)):=eJ aU
theorem kV a b c d e f g h j:L4 a b c d e f g h j=aB (decide (j<h)) (if 0<=j/\j<(a:Int)then aQ (eB (b j.toNat,c j.toNat,d j.toNat,e j.toNat,f j.toNat,g j.toNat)) (vH.L4 a (fun i=>b i) (fun i=>c i) (fun i=>d i) (fun i=>e i) (fun i=>f i) (fun i=>g i) h (i64.wrap (j+1)))else none) (some [D.s (sc (int i64 0))]):=lJ aU
def sp(p:Int)(a:rQ×rQ):Prop×List D:=(eB a.1/\eB a.2,[.s (.sc (.int .i64 (if 1<=p/\p<=70000 then 0 else 1)))])
theorem L(n:Nat)(f:Nat->rQ)(hn:n<=1000)(hf:∀i,i<n->eB (f i)):∀d k:Nat,k+d=n->L4 n (fun i=>(f i).1) (fun i=>(f i).2.1) (fun i=>(f i).2.2.1) (fun i=>(f i).2.2.2.1) (fun i=>(f i).2.2.2.2.1) (fun i=>(f i).2.2.2.2.2) (n:Int) (k:Int)=some [D.s (.sc (.int .i64 0))]
 |0,k,h=>by rw[kV,aI]
 |d+1,k,h=>by
  have e:i64.wrap ((k:Int)+1)=((k+1:Nat):Int):=by rw[wrap_i64];omega
  rw[kV,aO,aT,bQX,gP (hf k (by omega)),e];exact L n f hn hf d (k+1) (by omega)
theorem spec:fO E f40 aE (pN .i64) (aBD (.pair sB (.pair (sI .u64) (.pair (sN .i64) (.pair sB (.pair (sI .u64) (sN .i64)))))) (false,[],0,false,[],0)) sp:=by
 intro p a h;have hf:∀i,i<2->eB (t2 a.1 a.2 i):=fun i hi=>by
  obtain rfl |rfl:i=0\/i=1:=by omega
  ·exact h.1
  ·exact h.2
 refine(start p a.1 a.2).trans ((gP trivial).trans ?_);unfold sp
 by_cases hp:1<=p/\p<=70000
 ·rw[if_pos hp,decide_eq_true hp.1,decide_eq_true hp.2];exact L 2 (fun i=>t2 a.1 a.2 i) (by decide) hf 2 0 (by omega)
 ·rw[if_neg hp];have:(decide (1<=p)&&decide (p<=70000))=false:=by
   rw[bZP,decide_eq_false_iff_not,decide_eq_false_iff_not];omega
  rw[this];rfl
def aH:dC:=orc2 (pN .i64) (aBD (.pair sB (.pair (sI .u64) (.pair (sN .i64) (.pair sB (.pair (sI .u64) (sN .i64)))))) (false,[],0,false,[],0)) sp
theorem ok:OK 40 aH:=(eI E aE (aA xK.ok (aA sK.ok aD)) func40).lP rfl spec
end vH
namespace Ii
def E:=mE [(62,Dj.aH)] 6 [5] [] []
def aE:=bd f49
theorem aU:Nk E aE:=nk
theorem start a b c:aF E f49 aE [D.agg [sc (bool a),ints u64 b,sc (int i64 c)]]=aQ (aJ (a,b,c)/\aJ (false,[],(0:Int))) (some [D.s (sc (int i64 (cO (dv (a,b,c)) (dv (false,[],Int.ofNat (nat_lit 0))))))]):=eJ aU
def sp(x:dU):Prop×List D:=(aJ x,[.s (.sc (.int .i64 (cO (dv x) (0,0))))])
theorem aRD:aJ (false,[],0):=⟨⟨M6.Ak,fun h=>Bool.noConfusion h,by simp⟩,by constructor <;> decide,fun _=>rfl,fun h=>(h rfl).elim⟩
theorem spec:gO E f49 aE hZ sp:=by
 intro x h;exact(start x.1 x.2.1 x.2.2).trans (gP ⟨h,aRD⟩)
def aH:dC:=orc1 hZ sp
theorem ok:OK 49 aH:=(eI E aE (aA Dj.ok aD) func49).nD rfl spec
end Ii
namespace gA
def E:=mE [(45,sK.aH),(49,Ii.aH)] 18 [] [] []
def aE:=bd f58
theorem aU:Nk E aE:=nk
theorem start a b c d e f:aF E f58 aE [D.agg [sc (bool a),ints u64 b,sc (int i64 c),sc (bool d),ints u64 e,sc (int i64 f)]]=letI A:=sc (int i64 0);aQ (eB (a,b,c,d,e,f)) (aQ (aJ (d,e,f)) (aB (decide (cO (dv (d,e,f)) ((0:Int),(0:Int))<0)) (some [D.s (sc (int i64 (-1:Int))),D.s A]) (aQ (aJ (a,b,c)) (aB (decide (0<cO (dv (a,b,c)) ((0:Int),(0:Int)))) (some [D.s (sc (int i64 1)),D.s A]) (some [D.s A,D.s A]))))):=eJ aU
def vM(a b:Int×Int):Int:=if cO b (0,0)<0 then -1 else if 0<cO a (0,0)then 1 else 0
def sp(s:rQ):Prop×List D:=(eB s,[.s (.sc (.int .i64 (vM (dv (gM s)) (dv (gN s))))),.s (.sc (.int .i64 0))])
theorem spec:gO E f58 aE sT sp:=by
 intro s h;have h:eB s:=h;have hL:aJ (s.1,s.2.1,s.2.2.1):=h.1;have hH:aJ (s.2.2.2.1,s.2.2.2.2.1,s.2.2.2.2.2):=h.2.1;refine(start s.1 s.2.1 s.2.2.1 s.2.2.2.1 s.2.2.2.2.1 s.2.2.2.2.2).trans ?_;unfold sp vM
 try dsimp only
 rw[gP h,gP hH];show aB (decide (cO (dv (gN s)) (0,0)<0)) _ _=_
 by_cases c1:cO (dv (gN s)) (0,0)<0
 ·rw[aO c1,if_pos c1]
 ·rw[aI c1,if_neg c1,gP hL];show aB (decide (0<cO (dv (gM s)) (0,0))) _ _=_
  by_cases c2:0<cO (dv (gM s)) (0,0)
  ·rw[aO c2,if_pos c2]
  ·rw[aI c2,if_neg c2]
def aH:dC:=orc1 sT sp
theorem ok:OK 58 aH:=(eI E aE (aA sK.ok (aA Ii.ok aD)) func58).nD rfl spec
end gA
namespace Iv
def E:=mE [(111,bI.aH)] 14 [11] [] []
def aE:=bd f59
theorem aU:Nk E aE:=nk
theorem start a b d e f g c:aF E f59 aE [D.agg [sc (bool a),ints u64 b,sc (int i64 d)],D.agg [sc (bool e),ints u64 f,sc (int i64 g)],D.s (sc (int i64 c))]=letI A:=bI.nW false c (dv (a,b,d)) (dv (e,f,g));letI B:=bif fN A.fst A.snd then aK A.fst A.snd else((0:Int),(0:Int));aQ (aJ (a,b,d)/\aJ (e,f,g)/\(dv (e,f,g)).fst≠0/\b.length<=4096/\f.length<=4096/\1<=c/\c<=70000) (some [D.agg [sc (bool (isNeg B.fst)),ints u64 (M6.dg B.fst.natAbs),sc (int i64 B.snd)],D.s (sc (int i64 (bif fN A.fst A.snd then(0:Int)else(5:Int))))]):=eJ aU
def sp(x y:dU)(p:Int):Prop×List D:=(aJ x/\aJ y/\(dv y).1≠0/\x.2.1.length<=4096/\y.2.1.length<=4096/\1<=p/\p<=70000,dE (fN (bI.nW false p (dv x) (dv y)).1 (bI.nW false p (dv x) (dv y)).2) (aK (bI.nW false p (dv x) (dv y)).1 (bI.nW false p (dv x) (dv y)).2))
theorem spec:tL E f59 aE hZ hZ (pN .i64) sp:=by
 intro x y p h;refine(start x.1 x.2.1 x.2.2 y.1 y.2.1 y.2.2 p).trans ((gP h).trans ?_);rfl
def aH:dC:=orc3 hZ hZ (pN .i64) sp
theorem ok:OK 59 aH:=(eI E aE (aA bI.ok aD) func59).Bp rfl spec
end Iv
namespace Vt
def E:=mE [(111,bI.aH)] 14 [11] [] []
def aE:=bd f60
theorem aU:Nk E aE:=nk
theorem start a b d e f g c:aF E f60 aE [D.agg [sc (bool a),ints u64 b,sc (int i64 d)],D.agg [sc (bool e),ints u64 f,sc (int i64 g)],D.s (sc (int i64 c))]=letI A:=bI.nW true c (dv (a,b,d)) (dv (e,f,g));letI B:=bif fN A.fst A.snd then aK A.fst A.snd else((0:Int),(0:Int));aQ (aJ (a,b,d)/\aJ (e,f,g)/\(dv (e,f,g)).fst≠0/\b.length<=4096/\f.length<=4096/\1<=c/\c<=70000) (some [D.agg [sc (bool (isNeg B.fst)),ints u64 (M6.dg B.fst.natAbs),sc (int i64 B.snd)],D.s (sc (int i64 (bif fN A.fst A.snd then(0:Int)else(5:Int))))]):=eJ aU
def sp(x y:dU)(p:Int):Prop×List D:=(aJ x/\aJ y/\(dv y).1≠0/\x.2.1.length<=4096/\y.2.1.length<=4096/\1<=p/\p<=70000,dE (fN (bI.nW true p (dv x) (dv y)).1 (bI.nW true p (dv x) (dv y)).2) (aK (bI.nW true p (dv x) (dv y)).1 (bI.nW true p (dv x) (dv y)).2))
theorem spec:tL E f60 aE hZ hZ (pN .i64) sp:=by
 intro x y p h;refine(start x.1 x.2.1 x.2.2 y.1 y.2.1 y.2.2 p).trans ((gP h).trans ?_);rfl
def aH:dC:=orc3 hZ hZ (pN .i64) sp
theorem ok:OK 60 aH:=(eI E aE (aA bI.ok aD) func60).Bp rfl spec
end Vt
namespace Sh
def E:=mE [] 23 [] [] []
def aE:=bd f47
theorem aU:Nk E aE:=nk
theorem start a c e b f g h d:aF E f47 aE [D.agg [sc (bool a),ints u64 c,sc (int i64 e)],D.s (sc (int i64 b)),D.agg [sc (bool f),ints u64 g,sc (int i64 h)],D.s (sc (int i64 d))]=letI B:=int i64 0;letI A:=some [D.agg [sc (bool false),sc (slice none 0 0),sc B,sc (bool false),sc (slice none 0 0),sc B],D.s (sc (int i64 (if d>b then d else b)))];aB (b !=0) A (aB (d !=0) A (some [D.agg [sc (bool a),ints u64 c,sc (int i64 e),sc (bool f),ints u64 g,sc (int i64 h)],D.s (sc B)])):=eJ aU
def sp(x:dU)(e:Int)(y:dU)(f:Int):Prop×List D:=(e=0/\f=0,[.agg [.sc (.bool x.1),.ints .u64 x.2.1,.sc (.int .i64 x.2.2),.sc (.bool y.1),.ints .u64 y.2.1,.sc (.int .i64 y.2.2)],.s (.sc (.int .i64 0))])
theorem spec:aHE E f47 aE hZ (pN .i64) hZ (pN .i64) sp:=by
 rintro x e y f ⟨rfl,rfl⟩;exact start x.1 x.2.1 x.2.2 0 y.1 y.2.1 y.2.2 0
def aH:dC:=orc4 hZ (pN .i64) hZ (pN .i64) sp
theorem ok:OK 47 aH:=(eI E aE aD func47).aSU rfl spec
end Sh
namespace fL
def E:=mE [(40,vH.aH),(58,gA.aH),(31,iD.aH),(49,Ii.aH),(59,Iv.aH),(60,Vt.aH),(47,Sh.aH)] 86 [21,83] [(11,[2,3,4,6]),(14,[2,3,4,6,11,12]),(16,[2,3,6,11,12])] [11,14,16]
def aE:=bd f21
theorem aU:Nk E aE:=nk
def aYD a b c d e f g h i j k l m n o p q:=lD E f21 aE 11 [bR a,dG 1 31 [cG b,eM c,cP d,cG e,eM f,cP g],dG 2 31 [cG h,eM i,cP j,cG k,eM l,cP m],dG 3 31 [cG n,sc (slice none 0 0),cP o,cG p,sc (slice none 0 0),cP q]]
def aLM a b c d e f g h i j k l m n o p q r s t u v w:=lD E f21 aE 14 [bR a,dG 1 31 [cG b,eM c,cP d,cG e,eM f,cP g],dG 2 31 [cG h,eM i,cP j,cG k,eM l,cP m],dG 3 31 [cG n,sc (slice none 0 0),cP o,cG p,sc (slice none 0 0),cP q],dG 4 29 [cG r,eM s,cP t],dG 5 29 [cG u,eM v,cP w]]
def aLL a b c d e f g h i j k l m n o p q:=lD E f21 aE 16 [bR a,dG 1 31 [cG b,eM c,cP d,cG e,eM f,cP g],dG 2 31 [cG h,sc (slice none 0 0),cP i,cG j,sc (slice none 0 0),cP k],dG 3 29 [cG l,eM m,cP n],dG 4 29 [cG o,eM p,cP q]]
theorem start a b d e f g h i j k l m c:aF E f21 aE [D.agg [sc (bool a),ints u64 b,sc (int i64 d),sc (bool e),ints u64 f,sc (int i64 g)],D.agg [sc (bool h),ints u64 i,sc (int i64 j),sc (bool k),ints u64 l,sc (int i64 m)],D.s (sc (int i64 c))]=letI I:=int i64 0;letI F:=bool false;letI C:=slice none 0 0;letI B:=(a,b,d,e,f,g);letI N:=dv (gM B);letI K:=dv (gN B);letI A:=(h,i,j,k,l,m);letI H:=dv (gN A);letI G:=dv (gM A);aQ (eB B/\eB A) (aC (if 1<=c/\c<=70000 then(0:Int)else(1:Int)) fun n=>aB (n !=0) (some [D.agg [sc F,sc C,sc I,sc F,sc C,sc I],D.s (sc (int i64 n))]) (aQ (eB A) (aC (gA.vM G H) fun o=>aB (o==0) (some [D.agg [sc F,sc C,sc I,sc F,sc C,sc I],D.s (sc (int i64 4))]) (aB (o==(-1:Int)) (aQ (eB B) (aC (isNeg (-K.fst)) fun p=>aC (M6.dg (-K.fst).natAbs) fun q=>aC K.snd fun r=>aC (isNeg (-N.fst)) fun s=>aC (M6.dg (-N.fst).natAbs) fun t=>aC N.snd fun u=>aQ (eB A) (aC (isNeg (-H.fst)) fun v=>aC (M6.dg (-H.fst).natAbs) fun w=>aC H.snd fun x=>aC (isNeg (-G.fst)) fun y=>aC (M6.dg (-G.fst).natAbs) fun z=>aC G.snd fun aa=>fL.aYD c p q r s t u v w x y z aa false 0 false 0))) (fL.aYD c a b d e f g h i j k l m false 0 false 0))))):=eJ aU
theorem aQW a b c d e f g h i j k l m n o p q:aYD a b c d e f g h i j k l m n o p q=aQ (aJ (b,c,d)) (aC (cO (dv (b,c,d)) ((0:Int),(0:Int))) fun r=>aB (decide (r<0)) (fL.aLM a b c d e f g h i j k l m n o p q h i j h i j) (fL.aLM a b c d e f g h i j k l m n o p q k l m h i j)):=cJ aU
theorem Pa a b c d e f g h i j k l m n o p q r s t u v w:aLM a b c d e f g h i j k l m n o p q r s t u v w=aQ (aJ (e,f,g)) (aC (cO (dv (e,f,g)) ((0:Int),(0:Int))) fun x=>aB (decide (x<0)) (fL.aLL a b c d e f g n o p q r s t k l m) (fL.aLL a b c d e f g n o p q r s t u v w)):=cJ aU
theorem Vo a b c d e f g h i j k l m n o p q:aLL a b c d e f g h i j k l m n o p q=letI B:=bI.nW true a (dv (e,f,g)) (dv (o,p,q));letI F:=bif fN B.fst B.snd then aK B.fst B.snd else((0:Int),(0:Int));letI A:=bI.nW false a (dv (b,c,d)) (dv (l,m,n));letI C:=bif fN A.fst A.snd then aK A.fst A.snd else((0:Int),(0:Int));aQ (aJ (b,c,d)/\aJ (l,m,n)/\(dv (l,m,n)).fst≠0/\c.length<=4096/\m.length<=4096/\1<=a/\a<=70000) (aC (isNeg C.fst) fun r=>aC (M6.dg C.fst.natAbs) fun s=>aC C.snd fun t=>aC (bif fN A.fst A.snd then(0:Int)else(5:Int)) fun u=>aQ (aJ (e,f,g)/\aJ (o,p,q)/\(dv (o,p,q)).fst≠0/\f.length<=4096/\p.length<=4096/\1<=a/\a<=70000) (aC (isNeg F.fst) fun v=>aC (M6.dg F.fst.natAbs) fun w=>aC F.snd fun x=>aC (bif fN B.fst B.snd then(0:Int)else(5:Int)) fun y=>aQ (u=0/\y=0) (some [D.agg [sc (bool r),ints u64 s,sc (int i64 t),sc (bool v),ints u64 w,sc (int i64 x)],D.s (sc (int i64 0))]))):=cJ aU
def Yv(p:Int)(a u v:Int×Int):Int×Int:=bI.nW false p a (bif decide (cO a (0,0)<0)then u else v)
def Yw(p:Int)(a u v:Int×Int):Int×Int:=bI.nW true p a (bif decide (cO a (0,0)<0)then v else u)
def Ci(p:Int)(a b u v:Int×Int):Int×Int:=bif gA.vM u v==-1 then Yv p (iD.sQ b) (iD.sQ v) (iD.sQ u)else Yv p a u v
def Cj(p:Int)(a b u v:Int×Int):Int×Int:=bif gA.vM u v==-1 then Yw p (iD.sQ a) (iD.sQ v) (iD.sQ u)else Yw p b u v
def sp(s t:rQ)(p:Int):Prop×List D:=(eB s/\eB t/\(1<=p/\p<=70000)/\gA.vM (dv (gM t)) (dv (gN t))≠0 /\
 (bl (dv (gM s)).1.natAbs<=262144/\bl (dv (gN s)).1.natAbs<=262144/\bl (dv (gM t)).1.natAbs<=262144/\bl (dv (gN t)).1.natAbs<=262144) /\
 fN (Ci p (dv (gM s)) (dv (gN s)) (dv (gM t)) (dv (gN t))).1 (Ci p (dv (gM s)) (dv (gN s)) (dv (gM t)) (dv (gN t))).2=true/\fN (Cj p (dv (gM s)) (dv (gN s)) (dv (gM t)) (dv (gN t))).1 (Cj p (dv (gM s)) (dv (gN s)) (dv (gM t)) (dv (gN t))).2=true,
 [yM (aK (Ci p (dv (gM s)) (dv (gN s)) (dv (gM t)) (dv (gN t))).1 (Ci p (dv (gM s)) (dv (gN s)) (dv (gM t)) (dv (gN t))).2) (aK (Cj p (dv (gM s)) (dv (gN s)) (dv (gM t)) (dv (gN t))).1 (Cj p (dv (gM s)) (dv (gN s)) (dv (gM t)) (dv (gN t))).2),.s (.sc (.int .i64 0))])
theorem J{p:Int}(hp:1<=p/\p<=70000){x y u v:dU}(hx:aJ x)(hy:aJ y)(hu:aJ u)(hv:aJ v)(u0:(dv u).1≠0)(v0:(dv v).1≠0)(lx:x.2.1.length<=4096)(ly:y.2.1.length<=4096)(lu:u.2.1.length<=4096)(lv:v.2.1.length<=4096)
  (i1:fN (Yv p (dv x) (dv u) (dv v)).1 (Yv p (dv x) (dv u) (dv v)).2=true) (i2:fN (Yw p (dv y) (dv u) (dv v)).1 (Yw p (dv y) (dv u) (dv v)).2=true) :
  aYD p x.1 x.2.1 x.2.2 y.1 y.2.1 y.2.2 u.1 u.2.1 u.2.2 v.1 v.2.1 v.2.2 false 0 false 0=some [yM (aK (Yv p (dv x) (dv u) (dv v)).1 (Yv p (dv x) (dv u) (dv v)).2) (aK (Yw p (dv y) (dv u) (dv v)).1 (Yw p (dv y) (dv u) (dv v)).2),.s (.sc (.int .i64 0))]:=by
 have fin:∀m n:dU,aJ m->aJ n->(dv m).1≠0->(dv n).1≠0->m.2.1.length<=4096->n.2.1.length<=4096->fN (bI.nW false p (dv x) (dv m)).1 (bI.nW false p (dv x) (dv m)).2=true->fN (bI.nW true p (dv y) (dv n)).1 (bI.nW true p (dv y) (dv n)).2=true ->
   aLL p x.1 x.2.1 x.2.2 y.1 y.2.1 y.2.2 false 0 false 0 m.1 m.2.1 m.2.2 n.1 n.2.1 n.2.2=some [yM (aK (bI.nW false p (dv x) (dv m)).1 (bI.nW false p (dv x) (dv m)).2) (aK (bI.nW true p (dv y) (dv n)).1 (bI.nW true p (dv y) (dv n)).2),.s (.sc (.int .i64 0))]:=by
  intro m n hm hn m0 n0 lm ln j1 j2;have x1:(x.1,x.2.1,x.2.2)=x:=rfl;have x2:(y.1,y.2.1,y.2.2)=y:=rfl;have x3:(m.1,m.2.1,m.2.2)=m:=rfl;have x4:(n.1,n.2.1,n.2.2)=n:=rfl;rw[Vo];simp only[aL,x1,x2,x3,x4,j1,j2,cond_true];rw[gP ⟨hx,hm,m0,lx,lm,hp.1,hp.2⟩,gP ⟨hy,hn,n0,ly,ln,hp.1,hp.2⟩,gP ⟨trivial,trivial⟩];rfl
 unfold Yv Yw at *;rw[aQW,gP hx,aL]
 by_cases c1:cO (dv x) (0,0)<0
 ·rw[show dv (x.1,x.2.1,x.2.2)=dv x from rfl,aO c1,Pa,gP hy,aL,show dv (y.1,y.2.1,y.2.2)=dv y from rfl];rw[decide_eq_true c1,cond_true]at i1 ⊢
  by_cases c2:cO (dv y) (0,0)<0
  ·rw[aO c2];rw[decide_eq_true c2,cond_true]at i2 ⊢;exact fin u v hu hv u0 v0 lu lv i1 i2
  ·rw[aI c2];rw[decide_eq_false c2,cond_false]at i2 ⊢;exact fin u u hu hu u0 u0 lu lu i1 i2
 ·rw[show dv (x.1,x.2.1,x.2.2)=dv x from rfl,aI c1,Pa,gP hy,aL,show dv (y.1,y.2.1,y.2.2)=dv y from rfl];rw[decide_eq_false c1,cond_false]at i1 ⊢
  by_cases c2:cO (dv y) (0,0)<0
  ·rw[aO c2];rw[decide_eq_true c2,cond_true]at i2 ⊢;exact fin v v hv hv v0 v0 lv lv i1 i2
  ·rw[aI c2];rw[decide_eq_false c2,cond_false]at i2 ⊢;exact fin v u hv hu v0 u0 lv lu i1 i2
theorem cell{q:Int×Int}(h:jG q)(hb:bl q.1.natAbs<=262144):(isNeg q.1,M6.dg q.1.natAbs,q.2).2.1.length<=4096:=by
 have:=cQ h;refine this.Cs ?_;rw[dK];exact hb
theorem spec:tL E f21 aE sT sT (pN .i64) sp:=by
 rintro s t p ⟨h1,h2,hp,hs,⟨l1,l2,l3,l4⟩,i1,i2⟩;refine(start s.1 s.2.1 s.2.2.1 s.2.2.2.1 s.2.2.2.2.1 s.2.2.2.2.2 t.1 t.2.1 t.2.2.1 t.2.2.2.1 t.2.2.2.2.1 t.2.2.2.2.2 p).trans ?_;rw[gP ⟨h1,h2⟩,aL,if_pos hp,gT rfl,gP h2,aL];unfold sp;have n1:(dv (gM t)).1≠0:=fun hz=>by
  have:=Fq.1 (Ew hz);have o:=jT.1 h2.2.2;unfold gA.vM at hs
  by_cases g:cO (dv (gN t)) (0,0)<0
  ·have:=yG.1 g;grind
  ·rw[if_neg g,if_neg (by rw[Ew hz];omega)]at hs;exact hs rfl
 have n2:(dv (gN t)).1≠0:=fun hz=>by
  have:=Fq.1 (Ew hz);have o:=jT.1 h2.2.2;unfold gA.vM at hs;rw[if_neg (by rw[Ew hz];omega)]at hs
  by_cases g:0<cO (dv (gM t)) (0,0)
  ·have:=tA.1 g;grind
  ·rw[if_neg g]at hs;exact hs rfl
 show aB (gA.vM (dv (gM t)) (dv (gN t))==0) _ _=_;rw[bS hs];have p1:=h1.1.uS;have p2:=h1.2.1.uS;have p3:=h2.1.uS;have p4:=h2.2.1.uS;unfold Ci Cj at *
 by_cases c:gA.vM (dv (gM t)) (dv (gN t))=-1
 ·rw[show(gA.vM (dv (gM t)) (dv (gN t))==-1)=true from beq_iff_eq.2 c,cond_true]at i1 i2;show aB (gA.vM (dv (gM t)) (dv (gN t))==-1) _ _=_;rw[cF c,gP h1];simp only[aL];rw[gP h2];rw[show(gA.vM (dv (gM t)) (dv (gN t))==-1)=true from beq_iff_eq.2 c,cond_true,cond_true];have e:=J hp (cQ p2.El) (cQ p1.El) (cQ p4.El) (cQ p3.El);rw[dK,dK,dK,dK]at e;dsimp only at e;exact e (by omega) (by omega) (cell p2.El (by dsimp only;rw[bTV];exact l2)) (cell p1.El (by dsimp only;rw[bTV];exact l1)) (cell p4.El (by dsimp only;rw[bTV];exact l4)) (cell p3.El (by dsimp only;rw[bTV];exact l3)) i1 i2
 ·rw[show(gA.vM (dv (gM t)) (dv (gN t))==-1)=false from beq_eq_false_iff_ne.2 c,cond_false]at i1 i2;show aB (gA.vM (dv (gM t)) (dv (gN t))==-1) _ _=_;rw[bS c];rw[show(gA.vM (dv (gM t)) (dv (gN t))==-1)=false from beq_eq_false_iff_ne.2 c,cond_false,cond_false];exact J hp h1.1 h1.2.1 h2.1 h2.2.1 n1 n2 (h1.1.Cs l1) (h1.2.1.Cs l2) (h2.1.Cs l3) (h2.2.1.Cs l4) i1 i2
def aH:dC:=orc3 sT sT (pN .i64) sp
theorem ok:OK 21 aH:=(eI E aE (aA vH.ok (aA gA.ok (aA iD.ok (aA Ii.ok (aA Iv.ok (aA Vt.ok (aA Sh.ok aD))))))) func21).Bp rfl spec
end fL
namespace VTurned
def trn(s c:(Int×Int)×(Int×Int)):Nat->((Int×Int)×(Int×Int))×((Int×Int)×(Int×Int))
 |0=>(s,c)
 |n+1=>trn c (iD.sQ s.2,iD.sQ s.1) n
theorem aOF{s:rQ}(h:eB s):eB (mQ (iD.sQ (dv (gN s))) (iD.sQ (dv (gM s)))):=by
 refine qQ h.2.1.uS.El h.1.uS.El ?_;have:=jT.1 h.2.2;refine jT.2 ?_;unfold iD.sQ;rw[mG,mG];grind
end VTurned
end W
namespace M
open Go AI W
structure Bx(s:(Int×Int)×(Int×Int))(V W m:Rat):Prop where
 pl:jG s.1
 ph:jG s.2
 bl:bl s.1.1.natAbs<=100000
 bh:M.bl s.2.1.natAbs<=100000
 m0:0<=m
 lo:R.qz s.1+m<=V
 hi:V+m<=R.qz s.2
 wd:R.qz s.2-R.qz s.1<=W
theorem Bx.neg{s:(Int×Int)×(Int×Int)}{V W m:Rat}(h:Bx s V W m):Bx (iD.sQ s.2,iD.sQ s.1) (-V) W m:=by
 obtain⟨h1,h2,h3,h4,h5,h6,h7,h8⟩:=h;refine⟨h2.El,h1.El,?_,?_,h5,?_,?_,?_⟩
 ·show M.bl (-s.2.1).natAbs<=_;rw[bTV];exact h4
 ·show M.bl (-s.1.1).natAbs<=_;rw[bTV];exact h3
 ·show R.qz (-s.2.1,s.2.2)+m<=_;rw[mG];grind
 ·show _<=R.qz (-s.1.1,s.1.2);rw[mG];grind
 ·show R.qz (-s.1.1,s.1.2)-R.qz (-s.2.1,s.2.2)<=_;rw[mG,mG];grind
theorem Bx.Yz{s:(Int×Int)×(Int×Int)}{V W m:Rat}(h:Bx s V W m):eB (mQ s.1 s.2):=qQ h.pl h.ph (jT.2 (by have:=h.lo;have:=h.hi;have:=h.m0;grind))
theorem Bx.trn{s c:(Int×Int)×(Int×Int)}{S C Ws Wc m:Rat}(hs:Bx s S Ws m)(hc:Bx c C Wc m){k:Int} :
  Bx (VTurned.trn s c (k%4).toNat).1 (R.rs k S C) (if k%2=0 then Ws else Wc) m/\Bx (VTurned.trn s c (k%4).toNat).2 (R.rc k S C) (if k%2=0 then Wc else Ws) m:=by
 have h4:k%4=0\/k%4=1\/k%4=2\/k%4=3:=by omega
 unfold R.rs R.rc;rcases h4 with h |h |h |h
 ·have h2:k%2=0:=by omega
  simp[h,h2];exact⟨hs,hc⟩
 ·have h2:k%2=1:=by omega
  simp[h,h2];exact⟨hc,hs.neg⟩
 ·have h2:k%2=0:=by omega
  simp[h,h2];exact⟨hs.neg,hc.neg⟩
 ·have h2:k%2=1:=by omega
  simp[h,h2];have e:s=(iD.sQ (iD.sQ s.1),iD.sQ (iD.sQ s.2)):=by
   obtain⟨⟨a,b⟩,c,d⟩:=s;unfold iD.sQ;dsimp only;rw[Int.neg_neg,Int.neg_neg]
  refine⟨hc.neg,?_⟩;have:=hs;rw[e]at this;exact this
theorem aKT(up:Bool){z:Int}{v:Rat}{k:Nat}(hk:1<=k)(h:(z:Rat)=v\/(z%2=1/\(z:Rat)-1<v/\v<(z:Rat)+1)) :
  (up=false->(iU.nN up z k:Rat)*((2^k:Nat):Rat)<=v/\v<=(iU.nN up z k:Rat)*((2^k:Nat):Rat)+((2^k:Nat):Rat))/\(up=true->v<=(iU.nN up z k:Rat)*((2^k:Nat):Rat)/\(iU.nN up z k:Rat)*((2^k:Nat):Rat)<=v+((2^k:Nat):Rat)):=by
 obtain⟨c1,c2⟩:=Ye up z k;have K0:(0:Rat)<((2^k:Nat):Rat):=by exact_mod_cast bQA (by decide)
 rcases h with h |⟨ho,h1,h2⟩
 ·rw[<-h];exact⟨fun hu=>⟨(c1 hu).1,bSJ (c1 hu).2⟩,fun hu=>⟨(c2 hu).1,bSJ (c2 hu).2⟩⟩
 ·
  have ev:(2:Int)∣((2^k:Nat):Int):=by
   obtain⟨j,rfl⟩:∃j,k=j+1:=⟨k-1,by omega⟩;rw[bSA];exact⟨((2^j:Nat):Int),by push_cast;omega⟩
  have fl:∀w:Int,w%2=1->w/((2^k:Nat):Int)*((2^k:Nat):Int)+1<=w/\w+1<=w/((2^k:Nat):Int)*((2^k:Nat):Int)+((2^k:Nat):Int):=by
   intro w hw;have e:=Int.mul_ediv_add_emod w ((2^k:Nat):Int);have hp:(0:Int)<((2^k:Nat):Int):=by have:=bQA (n:=k) (show 0<2 by decide);omega
   have m0:=Int.emod_nonneg w (show((2^k:Nat):Int)≠0 by omega);have m1:=Int.emod_lt_of_pos w hp;have m2:w%((2^k:Nat):Int)%2=1:=by rw[Int.emod_emod_of_dvd w ev];exact hw
   rw[Int.mul_comm]at e;generalize w/((2^k:Nat):Int)*((2^k:Nat):Int)=P at *;omega
  constructor
  ·rintro rfl;unfold iU.nN;rw[cond_false];obtain⟨f1,f2⟩:=fl z ho;have bMJ:((z/((2^k:Nat):Int):Int):Rat)*((2^k:Nat):Rat)+1<=(z:Rat):=by exact_mod_cast f1
   have bMI:(z:Rat)+1<=((z/((2^k:Nat):Int):Int):Rat)*((2^k:Nat):Rat)+((2^k:Nat):Rat):=by exact_mod_cast f2
   generalize ((z/((2^k:Nat):Int):Int):Rat)*((2^k:Nat):Rat)=P at *;constructor <;> grind
  ·rintro rfl;unfold iU.nN;rw[cond_true];obtain⟨f1,f2⟩:=fl (-z) (by omega);have bMJ:((-z/((2^k:Nat):Int):Int):Rat)*((2^k:Nat):Rat)+1<=-(z:Rat):=by exact_mod_cast f1
   have bMI:-(z:Rat)+1<=((-z/((2^k:Nat):Int):Int):Rat)*((2^k:Nat):Rat)+((2^k:Nat):Rat):=by exact_mod_cast f2
   rw[bYC];have e:-((-z/((2^k:Nat):Int):Int):Rat)*((2^k:Nat):Rat)=-(((-z/((2^k:Nat):Int):Int):Rat)*((2^k:Nat):Rat)):=by grind
   rw[e];generalize ((-z/((2^k:Nat):Int):Int):Rat)*((2^k:Nat):Rat)=P at *;constructor <;> grind
theorem aJF{a b s:Nat}(hb:0<b):∃v:Rat,v*(b:Rat)=2*((a:Rat)*((2^s:Nat):Rat))/\0<=v/\((bI.Pw a b s:Rat)=v\/(bI.Pw a b s%2=1/\(bI.Pw a b s:Rat)-1<v/\v<(bI.Pw a b s:Rat)+1)):=by
 have b0:(0:Rat)<(b:Rat):=by exact_mod_cast hb
 have hd:=bSI (a*2^s) b;have hm:=bPJ (a*2^s) hb;have A:(b:Rat)*((a*2^s/b:Nat):Rat)+((a*2^s%b:Nat):Rat)=(a:Rat)*((2^s:Nat):Rat):=by exact_mod_cast hd
 have Mm:((a*2^s%b:Nat):Rat)<(b:Rat):=by exact_mod_cast hm
 have q0:(0:Rat)<=((a*2^s/b:Nat):Rat):=by exact_mod_cast bTF _
 have m0:(0:Rat)<=((a*2^s%b:Nat):Rat):=by exact_mod_cast bTF _
 refine⟨2*((a:Rat)*((2^s:Nat):Rat))/(b:Rat),by grind,?_,?_⟩
 ·refine R.cN b0 ?_;have:(b:Rat)*(2*((a:Rat)*((2^s:Nat):Rat))/(b:Rat))=2*((a:Rat)*((2^s:Nat):Rat)):=by grind
  rw[this,<-A];have:=R.aG (bSJ b0) q0;grind
 ·have e:(b:Rat)*(2*((a:Rat)*((2^s:Nat):Rat))/(b:Rat))=2*((b:Rat)*((a*2^s/b:Nat):Rat)+((a*2^s%b:Nat):Rat)):=by rw[A];grind
  generalize 2*((a:Rat)*((2^s:Nat):Rat))/(b:Rat)=v at *;unfold bI.Pw
  by_cases hz:a*2^s%b=0
  ·left;rw[if_pos hz,bOC,bUB];rw[hz]at e;have z:((0:Nat):Rat)=0:=by norm_cast
   have two:((2:Nat):Rat)=2:=by norm_cast
   rw[z]at e;rw[two];have:(b:Rat)*v=(b:Rat)*(((a*2^s/b:Nat):Rat)*2):=by rw[e];grind
   exact(Rat.le_antisymm (R.cN b0 (by rw[this];exact bTP)) (R.cN b0 (by rw[this];exact bTP))).symm
  ·right;have m1:(1:Rat)<=((a*2^s%b:Nat):Rat):=by exact_mod_cast(show 1<=a*2^s%b by omega)
   rw[if_neg hz];have c:((a*2^s/b*2+1:Nat):Rat)=2*((a*2^s/b:Nat):Rat)+1:=by
    rw[bXN,bUB];have two:((2:Nat):Rat)=2:=by norm_cast
    have one:((1:Nat):Rat)=1:=by norm_cast
    rw[two,one];grind
   rw[c];refine⟨by omega,?_,?_⟩
   ·refine R.oR b0 ?_;rw[e];grind
   ·refine R.oR b0 ?_;rw[e];grind
end M
namespace W
open Go AI M
namespace Ik
def E:=mE [(98,xK.aH),(45,sK.aH)] 20 [] [(4,[10,11,12])] []
def aE:=bd f40
theorem aU:Nk E aE:=nk
def L4(a:Nat)(b:Nat->Bool)(c:Nat->List Int)(d:Nat->Int)(e:Nat->Bool)(f:Nat->List Int)(g:Nat->Int) x7 h:=nU E f40 aE 4 [(A.v (V.one (L.rows 6 a fun i=>[sc (bool (b i)),ints u64 (c i),sc (int i64 (d i)),sc (bool (e i)),ints u64 (f i),sc (int i64 (g i))])),none),bR x7,bR h]
theorem start p (a:rQ):aF E f40 aE [D.s (sc (int i64 p)),D.rows 6 1 fun i=>[sc (bool a.fst),ints u64 a.snd.fst,sc (int i64 a.snd.snd.fst),sc (bool a.snd.snd.snd.fst),ints u64 a.snd.snd.snd.snd.fst,sc (int i64 a.snd.snd.snd.snd.snd)]]=aQ True (aB (!(decide (1<=p)&&decide (p<=70000))) (some [D.s (sc (int i64 1))]) (Ik.L4 1 (fun i=>a.fst) (fun i=>a.snd.fst) (fun i=>a.snd.snd.fst) (fun i=>a.snd.snd.snd.fst) (fun i=>a.snd.snd.snd.snd.fst) (fun i=>a.snd.snd.snd.snd.snd) 1 0)):=eJ aU
theorem kV a b c d e f g h j:L4 a b c d e f g h j=aB (decide (j<h)) (if 0<=j/\j<(a:Int)then aQ (eB (b j.toNat,c j.toNat,d j.toNat,e j.toNat,f j.toNat,g j.toNat)) (Ik.L4 a (fun i=>b i) (fun i=>c i) (fun i=>d i) (fun i=>e i) (fun i=>f i) (fun i=>g i) h (i64.wrap (j+1)))else none) (some [D.s (sc (int i64 0))]):=lJ aU
def sp(p:Int)(a:rQ):Prop×List D:=(eB a,[.s (.sc (.int .i64 (if 1<=p/\p<=70000 then 0 else 1)))])
theorem L(n:Nat)(f:Nat->rQ)(hn:n<=1000)(hf:∀i,i<n->eB (f i)):∀d k:Nat,k+d=n->L4 n (fun i=>(f i).1) (fun i=>(f i).2.1) (fun i=>(f i).2.2.1) (fun i=>(f i).2.2.2.1) (fun i=>(f i).2.2.2.2.1) (fun i=>(f i).2.2.2.2.2) (n:Int) (k:Int)=some [D.s (.sc (.int .i64 0))]
 |0,k,h=>by rw[kV,aI]
 |d+1,k,h=>by
  have e:i64.wrap ((k:Int)+1)=((k+1:Nat):Int):=by rw[wrap_i64];omega
  rw[kV,aO,aT,bQX,gP (hf k (by omega)),e];exact L n f hn hf d (k+1) (by omega)
theorem spec:fO E f40 aE (pN .i64) (bEA (.pair sB (.pair (sI .u64) (.pair (sN .i64) (.pair sB (.pair (sI .u64) (sN .i64)))))) (false,[],0,false,[],0)) sp:=by
 intro p a h;have hf:∀i,i<1->eB (a):=fun i hi=>h
 refine(start p a).trans ((gP trivial).trans ?_);unfold sp
 by_cases hp:1<=p/\p<=70000
 ·rw[if_pos hp,decide_eq_true hp.1,decide_eq_true hp.2];exact L 1 (fun _=>a) (by decide) hf 1 0 (by omega)
 ·rw[if_neg hp];have:(decide (1<=p)&&decide (p<=70000))=false:=by
   rw[bZP,decide_eq_false_iff_not,decide_eq_false_iff_not];omega
  rw[this];rfl
def aH:dC:=orc2 (pN .i64) (bEA (.pair sB (.pair (sI .u64) (.pair (sN .i64) (.pair sB (.pair (sI .u64) (sN .i64)))))) (false,[],0,false,[],0)) sp
theorem ok:OK 40 aH:=(eI E aE (aA xK.ok (aA sK.ok aD)) func40).lP rfl spec
end Ik
end W
namespace M
open Go AI W
theorem aJG{a b:Nat}{p:Int}(hp:1<=p)(ha:a≠0)(hb:b≠0):p+3<=(bl (bI.Pw a b (bI.yR p a b)):Nat):=by
 have h1:=Yp ha;have h2:=vP b;have b0:=sE ha;have key:2^(p+1).toNat<=a*2^(bI.yR p a b)/b:=by
  rw[Nat.le_div_iff_mul_le (by omega)];have e1:2^(p+1).toNat*b<=2^((p+1).toNat+bl b):=by rw[bSD];exact bPP _ (Nat.le_of_lt h2)
  have e2:2^(bl a-1+bI.yR p a b)<=a*2^(bI.yR p a b):=by rw[bSD];exact bOO _ h1
  have e3:2^((p+1).toNat+bl b)<=2^(bl a-1+bI.yR p a b):=bQB (by decide) (by unfold bI.yR;omega);omega
 have:2^(p+2).toNat<=bI.Pw a b (bI.yR p a b):=by
  have e:2^(p+2).toNat=2^(p+1).toNat*2:=by rw[<-bSA];congr 1;omega
  unfold bI.Pw;rw[e];generalize a*2^(bI.yR p a b)/b=Q at *;omega
 have:=(rN (n:=bI.Pw a b (bI.yR p a b)) (k:=(p+2).toNat)).2 this;omega
theorem Lt(b:Bool)(n:Nat):(zs b n:Rat)=(if b then -1 else 1)*(n:Rat):=by
 cases b
 ·show((n:Int):Rat)=_;rw[bXT];simp
 ·show((-(n:Int):Int):Rat)=_;rw[bYC,bXT,if_pos rfl];grind
theorem aLQ(z:Int):zs (isNeg z) z.natAbs=z:=by
 cases h:isNeg z with
 |true=>have:=lS.1 h;show -(z.natAbs:Int)=z;omega
 |false=>have:=jL.1 h;show(z.natAbs:Int)=z;omega
theorem xW(up:Bool){x y:Int×Int}{p:Int}{q:Rat}(hp:1<=p)(hy:y.1≠0)(hq:q*R.qz y=R.qz x) :
  (up=false->R.qz (aK (bI.nW up p x y).1 (bI.nW up p x y).2)<=q/\q<=R.qz (aK (bI.nW up p x y).1 (bI.nW up p x y).2)+R.pz (2-p)*R.ab q) /\
  (up=true->q<=R.qz (aK (bI.nW up p x y).1 (bI.nW up p x y).2)/\R.qz (aK (bI.nW up p x y).1 (bI.nW up p x y).2)<=q+R.pz (2-p)*R.ab q):=by
 rw[mT];unfold bI.nW bI.aSN;dsimp only;obtain⟨v,v1,v2,v3⟩:=aJF (a:=x.1.natAbs) (b:=y.1.natAbs) (s:=bI.yR p x.1.natAbs y.1.natAbs) (by omega);have bCX:=aJG (a:=x.1.natAbs) (b:=y.1.natAbs) hp;have bMV:=R.aN q;generalize hs:bI.yR p x.1.natAbs y.1.natAbs=s at *;generalize hQ:bI.Pw x.1.natAbs y.1.natAbs s=Q at *;obtain⟨e,he⟩:∃e,e=x.2-y.2-(s:Int)-1:=⟨_,rfl⟩;rw[<-he];have pe:=R.dJ e;have vq:q=(if(isNeg x.1 !=isNeg y.1)then -1 else 1)*v*R.pz e:=by
  have aON:(x.1:Rat)=(if isNeg x.1 then -1 else 1)*(x.1.natAbs:Rat):=by rw[<-Lt,aLQ]
  have aEC:(y.1:Rat)=(if isNeg y.1 then -1 else 1)*(y.1.natAbs:Rat):=by rw[<-Lt,aLQ]
  have bHG:R.qz y≠0:=aLY hy;have ex:R.pz x.2=2*((2^s:Nat):Rat)*R.pz e*R.pz y.2:=by
   have:x.2=e+y.2+(s:Int)+1:=by omega
   rw[this,R.jJ,R.dW,R.mH];grind
  have e2:((if(isNeg x.1 !=isNeg y.1)then -1 else 1)*v*R.pz e)*R.qz y=R.qz x:=by
   unfold R.qz;rw[ex,aON,aEC];have:v*(y.1.natAbs:Rat)=2*((x.1.natAbs:Rat)*((2^s:Nat):Rat)):=v1;cases isNeg x.1 <;> cases isNeg y.1 <;> simp <;> grind
  have e3:(q-(if(isNeg x.1 !=isNeg y.1)then -1 else 1)*v*R.pz e)*R.qz y=0:=by grind
  rcases Rat.mul_eq_zero.1 e3 with h |h
  ·grind
  ·exact absurd h bHG
 obtain⟨w,hw⟩:∃w,w=(if(isNeg x.1 !=isNeg y.1)then(-1:Rat)else 1)*v:=⟨_,rfl⟩;rw[<-hw]at vq;obtain⟨z,hz⟩:∃z,z=zs (isNeg x.1 !=isNeg y.1) Q:=⟨_,rfl⟩;rw[<-hz];have aZI:(z:Rat)=w\/(z%2=1/\(z:Rat)-1<w/\w<(z:Rat)+1):=by
  rw[hz,Lt,hw];rcases v3 with h |⟨h1,h2,h3⟩
  ·left;rw[h]
  ·right;refine⟨?_,?_⟩
   ·cases (isNeg x.1 !=isNeg y.1)
    ·show((Q:Nat):Int)%2=1;omega
    ·show(-(Q:Int))%2=1;omega
   ·cases (isNeg x.1 !=isNeg y.1) <;> simp <;> constructor <;> grind
 have za:z.natAbs=Q:=by rw[hz];exact kD _ _
 have bMU:R.ab q=R.ab w*R.pz e:=by rw[vq,R.fG,R.bG (bSJ pe)]
 have bGF:=R.dJ (2-p);unfold bV.mA
 by_cases c:(bl z.natAbs:Int)-p<=0
 ·rw[if_pos c];dsimp only;have aTH:(z:Rat)=w:=by
   rcases aZI with h |⟨h,_⟩
   ·exact h
   ·exfalso;have Pg:x.1.natAbs≠0:=by
     intro h0;rw[h0]at hQ;have:Q=0:=by
      rw[<-hQ];unfold bI.Pw;rw[Nat.zero_mul,bWV,Nat.zero_mod,if_pos rfl]
     omega
    have:=bCX Pg (by omega);rw[za]at c;omega
  have:=R.aG (bSJ bGF) bMV;rw[aTH,<-vq];constructor <;> (intro _;constructor <;> grind)
 ·rw[if_neg c];dsimp only;obtain⟨k,hk⟩:=bSE (show 0<=(bl z.natAbs:Int)-p by omega);rw[hk,bQX,R.dW];obtain⟨c1,c2⟩:=aKT up (z:=z) (v:=w) (k:=k) (by omega) aZI;have lit:((2^k:Nat):Rat)<=R.pz (2-p)*R.ab w:=by
   have Zn:z≠0:=by intro h0;rw[h0]at c;exact c (by show(bl 0:Int)-p<=0;rw[yH];omega)
   have t1:=(rU (p:=(z,0)) Zn).1;have ez:R.qz (z,0)=(z:Rat):=by unfold R.qz;dsimp only;rw[R.fS];grind
   rw[ez]at t1;have et:bB (z,0)=(bl z.natAbs:Int)-1:=by unfold bB;dsimp only;omega
   rw[et]at t1;have b2:2<=bl z.natAbs:=by omega
   have aw:R.ab (z:Rat)-1<=R.ab w:=by
    rcases aZI with h |⟨_,h1,h2⟩
    ·rw[h];grind
    ·have:=R.Oh w ((z:Rat)-w);have:R.ab ((z:Rat)-w)<=1:=by rw[R.cT];constructor <;> grind
     have:w+((z:Rat)-w)=(z:Rat):=by grind
     grind
   have e1:R.pz ((bl z.natAbs:Int)-1)=2*R.pz ((bl z.natAbs:Int)-2):=by rw[<-R.jJ];congr 1;omega
   have e2:1<=R.pz ((bl z.natAbs:Int)-2):=by rw[<-R.fS];exact R.dR (by omega)
   have e3:((2^k:Nat):Rat)=R.pz (2-p)*R.pz ((bl z.natAbs:Int)-2):=by rw[<-R.mH,<-R.oH,<-hk];congr 1;omega
   rw[e3];have:=R.aG (bSJ bGF) (show 0<=R.ab w-R.pz ((bl z.natAbs:Int)-2) by grind);grind
  rw[bMU,vq];have l2:=R.aG (bSJ pe) (show 0<=R.pz (2-p)*R.ab w-((2^k:Nat):Rat) by grind);generalize (iU.nN up z k:Rat)=cz at *;generalize ((2^k:Nat):Rat)=K at *;generalize R.pz (2-p)=P2 at *;generalize R.pz e=E at *;generalize R.ab w=aw at *;constructor
  ·intro hu;obtain⟨d1,d2⟩:=c1 hu;have m1:=R.aG (bSJ pe) (show 0<=w-cz*K by grind);have m2:=R.aG (bSJ pe) (show 0<=cz*K+K-w by grind);constructor <;> grind
  ·intro hu;obtain⟨d1,d2⟩:=c2 hu;have m1:=R.aG (bSJ pe) (show 0<=cz*K-w by grind);have m2:=R.aG (bSJ pe) (show 0<=w+K-cz*K by grind);constructor <;> grind
theorem aDG(up:Bool){x y:Int×Int}{p:Int}(hp:1<=p/\p<=70000)(bx:bl x.1.natAbs<=100000)(b_y:bl y.1.natAbs<=100000)(ex:-110000<=x.2/\x.2<=1000)(ey:-110000<=y.2/\y.2<=1000) :
  fN (bI.nW up p x y).1 (bI.nW up p x y).2=true/\bl (aK (bI.nW up p x y).1 (bI.nW up p x y).2).1.natAbs<=70001:=by
 unfold bI.nW bI.aSN;dsimp only;have hs:bI.yR p x.1.natAbs y.1.natAbs<=170002:=by unfold bI.yR;omega
 have hQ:bl (bI.Pw x.1.natAbs y.1.natAbs (bI.yR p x.1.natAbs y.1.natAbs))<=270006:=by
  have h1:bl (x.1.natAbs*2^(bI.yR p x.1.natAbs y.1.natAbs))<=270002:=bNX (aHY.aLC bx) (by omega);have h2:bI.Pw x.1.natAbs y.1.natAbs (bI.yR p x.1.natAbs y.1.natAbs)<=x.1.natAbs*2^(bI.yR p x.1.natAbs y.1.natAbs)*2+1:=by
   have:x.1.natAbs*2^(bI.yR p x.1.natAbs y.1.natAbs)/y.1.natAbs<=x.1.natAbs*2^(bI.yR p x.1.natAbs y.1.natAbs):=bVO _ _;unfold bI.Pw;generalize x.1.natAbs*2^(bI.yR p x.1.natAbs y.1.natAbs)/y.1.natAbs=A at *;generalize x.1.natAbs*2^(bI.yR p x.1.natAbs y.1.natAbs)=B at *;split <;> omega
  refine bNX (gU h2) (bNX (yI _ _) ?_);have h3:=Ll (x.1.natAbs*2^(bI.yR p x.1.natAbs y.1.natAbs)) 2;have h4:bl 2=2:=rfl;have h5:bl 1=1:=rfl;omega
 generalize bI.yR p x.1.natAbs y.1.natAbs=s at *;generalize bI.Pw x.1.natAbs y.1.natAbs s=Q at *;have hz:(zs (isNeg x.1 !=isNeg y.1) Q).natAbs=Q:=kD _ _;rw[<-hz]at hQ;generalize zs (isNeg x.1 !=isNeg y.1) Q=z at *;unfold bV.mA;split
 ·dsimp only;exact⟨fP (by omega) (by omega),bNX (qV _ _) (by omega)⟩
 ·dsimp only;have hc:=Ur up z ((bl z.natAbs:Int)-p).toNat p.toNat (by omega);generalize iU.nN up z ((bl z.natAbs:Int)-p).toNat=c at *;exact⟨fP (by omega) (by omega),bNX (qV _ _) (by omega)⟩
theorem Rj{a b u v S C V ρ m q1 q2:Rat}(ha:a+m<=S)(hb:S+m<=b)(aXT:b-a<=ρ*S)(hu:u+m<=C)(hv:C+m<=v)(huv:v-u<=ρ*C)(m0:0<=m)(S0:0<S)(C0:0<C)(C1:C<=1)(r0:0<=ρ)(r1:ρ<=1/64)(hV:V*C=S)(h1:q1*v=a)(h2:q2*u=b) :
  q1+m<=V/\V+m<=q2/\q2<=V+3*ρ*V/\V-2*ρ*V<=q1/\0<V/\0<=q1:=by
 have rS:=R.aG (bSJ S0) (show 0<=1/64-ρ by grind);have rC:=R.aG (bSJ C0) (show 0<=1/64-ρ by grind);have a0:0<a:=by grind
 have u0:0<u:=by grind
 have v0:0<v:=by grind
 have V0:0<V:=by
  refine Rat.not_le.1 fun hn=>?_
  have:=R.aG (show 0<=-V by grind) (bSJ C0);grind
 have aYN:0<q1:=by
  refine Rat.not_le.1 fun hn=>?_
  have:=R.aG (show 0<=-q1 by grind) (bSJ v0);grind
 have bHT:0<q2:=by
  refine Rat.not_le.1 fun hn=>?_
  have:=R.aG (show 0<=-q2 by grind) (bSJ u0);grind
 have mC:=R.aG m0 (show 0<=1-C by grind);have rV:=R.aG r0 (bSJ V0);have bDY:=R.aG rV (bSJ C0);have rr:=R.aG bDY (show 0<=1/64-ρ by grind);have rq:=R.aG bDY r0;refine⟨?_,?_,?_,?_,V0,bSJ aYN⟩
 ·refine R.cN C0 ?_;have:=R.aG (bSJ aYN) (show 0<=v-C by grind);grind
 ·refine R.cN C0 ?_;have:=R.aG (bSJ bHT) (show 0<=C-u by grind);grind
 ·refine R.cN u0 ?_;have h:=R.aG (show 0<=V+3*ρ*V by grind) (show 0<=u-(C-ρ*C) by grind);have e:(V+3*ρ*V)*(C-ρ*C)=V*C+2*(ρ*V*C)-3*(ρ*V*C*ρ):=by grind
  have e2:ρ*S=ρ*V*C:=by rw[<-hV];grind
  grind
 ·refine R.cN v0 ?_;have h:=R.aG (show 0<=V-2*ρ*V by have:=R.aG (bSJ V0) (show 0<=1/64-ρ by grind);grind) (show 0<=(C+ρ*C)-v by grind);have e:(V-2*ρ*V)*(C+ρ*C)=V*C-ρ*V*C-2*(ρ*V*C*ρ):=by grind
  have e2:ρ*S=ρ*V*C:=by rw[<-hV];grind
  grind
theorem Yk{p:Int×Int}:decide (cO p (0,0)<0)=decide (R.qz p<0):=by
 have h:=yG (p:=p) (q:=(0,0));rw[R.nH (p:=(0,0)) rfl]at h
 by_cases c:R.qz p<0
 ·rw[decide_eq_true c,decide_eq_true (h.2 c)]
 ·rw[decide_eq_false c,decide_eq_false fun hh=>c (h.1 hh)]
def Ev(p:Int×Int):Prop:=bl p.1.natAbs<=100000/\-110000<=p.2/\p.2<=1000
theorem wM{p:Int×Int}(hb:bl p.1.natAbs<=100000)(Br:p.1≠0)(h0:R.pz (-1300)<=R.ab (R.qz p))(h1:R.ab (R.qz p)<=2):Ev p:=by
 have a:=Bw Br h0;have b:bB p<=1:=zY Br (by rw[R.aNY];exact h1);have c:=sE (n:=p.1.natAbs) (by omega);unfold bB at a b;exact⟨hb,by omega,by omega⟩
theorem Wv{s c:(Int×Int)×(Int×Int)}{S C V ρ m:Rat}{p:Int}(hs:Bx s S (ρ*R.ab S) m)(hc:Bx c C (ρ*R.ab C) m)(S0:S≠0)(C0:0<C)(C1:C<=1)(r0:0<=ρ)(r1:ρ<=1/64)(hV:V*C=S)(hp:4<=p/\p<=70000)
  (z1:Ev s.1) (z2:Ev s.2) (z3:Ev c.1) (z4:Ev c.2) :
  fN (fL.Yv p s.1 c.1 c.2).1 (fL.Yv p s.1 c.1 c.2).2=true/\fN (fL.Yw p s.2 c.1 c.2).1 (fL.Yw p s.2 c.1 c.2).2=true /\
  Bx (aK (fL.Yv p s.1 c.1 c.2).1 (fL.Yv p s.1 c.1 c.2).2,aK (fL.Yw p s.2 c.1 c.2).1 (fL.Yw p s.2 c.1 c.2).2) V ((5*ρ+3*R.pz (2-p))*R.ab V) m:=by
 obtain⟨s1,s2,s3,s4,m0,s6,s7,s8⟩:=hs;obtain⟨c1,c2,c3,c4,_,c6,c7,c8⟩:=hc;rw[R.bG (bSJ C0)]at c8;have rC:=R.aG (bSJ C0) (show 0<=1/64-ρ by grind);have u0:0<R.qz c.1:=by grind
 have v0:0<R.qz c.2:=by grind
 have un:c.1.1≠0:=Kt (by grind);have vn:c.2.1≠0:=Kt (by grind);have e2:=R.dJ (2-p);have e3:R.pz (2-p)<=1/4:=by
  have h:=R.dR (show 2-p<=-2 by omega);have h2:=R.wR 2;rw[show -((2:Nat):Int)=-2 by rfl]at h2;rw[h2]at h;have h3:R.hf 2=1/4:=by simp[R.hf];grind
  grind
 have uS:∀up (x y:Int×Int),Ev x->Ev y->fN (bI.nW up p x y).1 (bI.nW up p x y).2=true/\jG (aK (bI.nW up p x y).1 (bI.nW up p x y).2)/\bl (aK (bI.nW up p x y).1 (bI.nW up p x y).2).1.natAbs<=100000:=by
  intro up x y hx hy;obtain⟨h1,h2⟩:=aDG up (x:=x) (y:=y) (p:=p) (by omega) hx.1 hy.1 hx.2 hy.2;refine⟨h1,⟨by omega,?_,fun h=>uT h,fun h=>Al h⟩,by omega⟩;unfold fN at h1;unfold aK;split
  ·dsimp only;omega
  ·rename_i Br;rw[decide_eq_false Br,bPC,bNH]at h1;exact⟨of_decide_eq_true h1.1,of_decide_eq_true h1.2⟩
 have aGB:∀a b:Rat,b≠0->a/b*b=a:=fun a b h=>by grind
 unfold fL.Yv fL.Yw;rw[Yk,Yk]
 by_cases hS:0<S
 ·rw[R.bG (bSJ hS)]at s8;have rS:=R.aG (bSJ hS) (show 0<=1/64-ρ by grind);rw[decide_eq_false (show ¬R.qz s.1<0 by grind),decide_eq_false (show ¬R.qz s.2<0 by grind),cond_false,cond_false];obtain⟨d1,d2,d3,d4,V0,q0⟩:=Rj (q1:=R.qz s.1/R.qz c.2) (q2:=R.qz s.2/R.qz c.1) s6 s7 s8 c6 c7 c8 m0 hS C0 C1 r0 r1 hV (aGB _ _ (by grind)) (aGB _ _ (by grind));have n1:=(xW false (x:=s.1) (y:=c.2) (p:=p) (q:=R.qz s.1/R.qz c.2) (by omega) vn (aGB _ _ (by grind))).1 rfl;have n2:=(xW true (x:=s.2) (y:=c.1) (p:=p) (q:=R.qz s.2/R.qz c.1) (by omega) un (aGB _ _ (by grind))).2 rfl;obtain⟨i1,p1,b1⟩:=uS false s.1 c.2 z1 z4;obtain⟨i2,p2,b2⟩:=uS true s.2 c.1 z2 z3;rw[R.bG q0]at n1;rw[R.bG (show 0<=R.qz s.2/R.qz c.1 by grind)]at n2;refine⟨i1,i2,p1,p2,b1,b2,m0,by grind,by grind,?_⟩;rw[R.bG (bSJ V0)];generalize R.qz s.1/R.qz c.2=q1 at *;generalize R.qz s.2/R.qz c.1=q2 at *;have k1:=R.aG (bSJ e2) (show 0<=V+3*ρ*V-q2 by grind);have k2:=R.aG (bSJ e2) (show 0<=V-q1 by grind);have k3:=R.aG (R.aG (bSJ e2) (bSJ V0)) (show 0<=1/64-ρ by grind);dsimp only;grind
 ·have bFX:0 < -S:=by grind
  have eS:R.ab S=-S:=by unfold R.ab;rw[if_neg (by grind)]
  rw[eS]at s8;have rS:=R.aG (bSJ bFX) (show 0<=1/64-ρ by grind);rw[decide_eq_true (show R.qz s.1<0 by grind),decide_eq_true (show R.qz s.2<0 by grind),cond_true,cond_true];have f1:-(R.qz s.2/R.qz c.2)*R.qz c.2=-R.qz s.2:=by have:=aGB (R.qz s.2) (R.qz c.2) (by grind);grind
  have f2:-(R.qz s.1/R.qz c.1)*R.qz c.1=-R.qz s.1:=by have:=aGB (R.qz s.1) (R.qz c.1) (by grind);grind
  obtain⟨d1,d2,d3,d4,V0,q0⟩:=Rj (V:=-V) (a:=-R.qz s.2) (b:=-R.qz s.1) (S:=-S) (q1:=-(R.qz s.2/R.qz c.2)) (q2:=-(R.qz s.1/R.qz c.1)) (by grind) (by grind) (by grind) c6 c7 c8 m0 bFX C0 C1 r0 r1 (by grind) f1 f2;have n1:=(xW false (x:=s.1) (y:=c.1) (p:=p) (q:=R.qz s.1/R.qz c.1) (by omega) un (aGB _ _ (by grind))).1 rfl;have n2:=(xW true (x:=s.2) (y:=c.2) (p:=p) (q:=R.qz s.2/R.qz c.2) (by omega) vn (aGB _ _ (by grind))).2 rfl;obtain⟨i1,p1,b1⟩:=uS false s.1 c.1 z1 z3;obtain⟨i2,p2,b2⟩:=uS true s.2 c.2 z2 z4;rw[<-R.fW,R.bG (show 0<=-(R.qz s.1/R.qz c.1) by grind)]at n1;rw[<-R.fW,R.bG q0]at n2;refine⟨i1,i2,p1,p2,b1,b2,m0,by grind,by grind,?_⟩;rw[<-R.fW,R.bG (bSJ V0)];generalize R.qz s.2/R.qz c.2=q1 at *;generalize R.qz s.1/R.qz c.1=q2 at *;have k1:=R.aG (bSJ e2) (show 0<=-V+3*ρ*-V+q2 by grind);have k2:=R.aG (bSJ e2) (show 0<=-V+q1 by grind);have k3:=R.aG (R.aG (bSJ e2) (bSJ V0)) (show 0<=1/64-ρ by grind);dsimp only;grind
theorem Fb{p:Int×Int}(h:Ev p):Ev (iD.sQ p):=by
 obtain⟨a,b⟩:=h;refine⟨?_,b⟩;show bl (-p.1).natAbs<=_;rw[bTV];exact a
theorem Th{a b:Int×Int}(h:0<R.qz a)(aXT:R.qz a<=R.qz b):gA.vM a b=1:=by
 unfold gA.vM;have z:R.qz (0,0)=0:=R.nH rfl;rw[if_neg (fun hh=>by have:=yG.1 hh;grind),if_pos (tA.2 (by grind))]
theorem Ti{a b:Int×Int}(h:R.qz b<0):gA.vM a b=-1:=by
 unfold gA.vM;have z:R.qz (0,0)=0:=R.nH rfl;rw[if_pos (yG.2 (by grind))]
theorem aDF{s c:(Int×Int)×(Int×Int)}{S C V ρ m:Rat}{p:Int}(hs:Bx s S (ρ*R.ab S) m)(hc:Bx c C (ρ*R.ab C) m)(S0:S≠0)(C0:C≠0)(C1:R.ab C<=1)(r0:0<=ρ)(r1:ρ<=1/64)(hV:V*C=S)(hp:4<=p/\p<=70000)
  (z1:Ev s.1) (z2:Ev s.2) (z3:Ev c.1) (z4:Ev c.2) :
  gA.vM c.1 c.2≠0/\fN (fL.Ci p s.1 s.2 c.1 c.2).1 (fL.Ci p s.1 s.2 c.1 c.2).2=true/\fN (fL.Cj p s.1 s.2 c.1 c.2).1 (fL.Cj p s.1 s.2 c.1 c.2).2=true /\
  Bx (aK (fL.Ci p s.1 s.2 c.1 c.2).1 (fL.Ci p s.1 s.2 c.1 c.2).2,aK (fL.Cj p s.1 s.2 c.1 c.2).1 (fL.Cj p s.1 s.2 c.1 c.2).2) V ((5*ρ+3*R.pz (2-p))*R.ab V) m:=by
 have lo:=hc.lo;have hi:=hc.hi;have m0:=hc.m0;have wd:=hc.wd
 by_cases c0:0<C
 ·rw[R.bG (bSJ c0)]at C1 wd;have rC:=R.aG (bSJ c0) (show 0<=1/64-ρ by grind);have sg:=Th (a:=c.1) (b:=c.2) (by grind) (by grind);unfold fL.Ci fL.Cj;rw[sg,show((1:Int)==-1)=false from rfl];simp only[cond_false];exact⟨by decide,Wv hs hc S0 c0 C1 r0 r1 hV hp z1 z2 z3 z4⟩
 ·have e:R.ab C=-C:=by unfold R.ab;rw[if_neg (by grind)]
  rw[e]at C1 wd;have rC:=R.aG (show 0<=-C by grind) (show 0<=1/64-ρ by grind);have sg:=Ti (a:=c.1) (b:=c.2) (by grind);unfold fL.Ci fL.Cj;rw[sg,show((-1:Int)==-1)=true from rfl];simp only[cond_true];have oB:=hs.neg;have bFR:=hc.neg;rw[<-R.fW]at oB bFR;have s0:-S≠0:=by grind
  have c1:0 < -C:=by grind
  have v1:V*-C=-S:=by grind
  have q:=Wv oB bFR s0 c1 C1 r0 r1 v1 hp (Fb z2) (Fb z1) (Fb z4) (Fb z3);dsimp only at q;exact⟨by decide,q⟩
theorem Xe{s:(Int×Int)×(Int×Int)}{V W m:Rat}{n:Int}(pl:jG s.1)(ph:jG s.2)(m0:0<=m)(lo:R.qz s.1+m<=V)(hi:V+m<=R.qz s.2)(wd:R.qz s.2-R.qz s.1<=W)(hn:1<=n/\n<=70000)(h1:R.ab (R.qz s.1)<=R.pz 1100)(h2:R.ab (R.qz s.2)<=R.pz 1100) :
  wA false s.1 n=true/\wA true s.2 n=true/\Bx (shD false s.1 n,shD true s.2 n) V (W+R.pz (1-n)*(R.ab (R.qz s.1)+R.ab (R.qz s.2))) m:=by
 have aMF:∀{p:Int×Int},jG p->R.ab (R.qz p)<=R.pz 1100->aYC p:=by
  intro p hp hv;refine⟨hp,?_⟩
  by_cases h0:p.1=0
  ·have hb:M.bl p.1.natAbs=0:=by rw[h0];rfl
   have:=hp.2.2.1 h0;omega
  ·have:=zY h0 hv;unfold bB at this;omega
 obtain⟨a1,a2⟩:=Kl (up:=false) (n:=n) (aMF pl h1) hn.1;obtain⟨a3,a4⟩:=Kl (up:=true) (n:=n) (aMF ph h2) hn.1;have n1:=(Cc false s.1 hn.1).1 rfl;have n2:=(Cc true s.2 hn.1).2 rfl;have b1:=Ab false s.1 n.toNat;have b2:=Ab true s.2 n.toNat;rw[show((n.toNat:Nat):Int)=n by omega]at b1 b2;exact⟨a1,a3,a2,a4,by dsimp only;omega,by dsimp only;omega,m0,by dsimp only;grind,by dsimp only;grind,by dsimp only;grind⟩
theorem aDL{s:(Int×Int)×(Int×Int)}{V W m:Rat}{n:Int}(h:Bx s V W m)(hn:1<=n/\n<=70000)(h1:R.ab (R.qz s.1)<=R.pz 1100)(h2:R.ab (R.qz s.2)<=R.pz 1100) :
  wA false s.1 n=true/\wA true s.2 n=true/\Bx (shD false s.1 n,shD true s.2 n) V (W+R.pz (1-n)*(R.ab (R.qz s.1)+R.ab (R.qz s.2))) m :=
 Xe h.pl h.ph h.m0 h.lo h.hi h.wd hn h1 h2
end M
namespace W
open Go AI M
namespace oU
def Ki(x:dU):Prop:=aJ x/\((dv x).1≠0->cO (((dv x).1.natAbs:Nat),(dv x).2) (1,0)<=0/\-524288<=(dv x).2+(bl (dv x).1.natAbs:Nat)-1)
end oU
namespace nR
def E:=mE [(61,lB.aH),(113,Kg.aH),(24,aLO.aH),(153,Bo.aH)] 62 [] [(10,[30,31,32]),(4,[1,20,21,22]),(3,[1])] [3]
def aE:=bd f192
theorem aU:Nk E aE:=nk
def J3(a:Nat)(b:Nat->Bool)(c:Nat->List Int)(d:Nat->Int):=lD E f192 aE 3 [(A.v (V.one (L.rows 3 a fun i=>[sc (bool (b i)),ints u64 (c i),sc (int i64 (d i))])),none)]
def L4(a:Nat)(b:Nat->Bool)(c:Nat->List Int)(d:Nat->Int)(e:Nat)(f:Nat->Bool)(g:Nat->List Int)(h:Nat->Int) j k:=nU E f192 aE 4 [(A.v (V.one (L.rows 3 a fun i=>[sc (bool (b i)),ints u64 (c i),sc (int i64 (d i))])),none),(A.v (V.one (L.rows 3 e fun i=>[sc (bool (f i)),ints u64 (g i),sc (int i64 (h i))])),none),bR j,bR k]
def Ir(a:Nat)(b:Nat->Bool)(c:Nat->List Int)(d:Nat->Int) e f:=nU E f192 aE 10 [(A.v (V.one (L.rows 3 a fun i=>[sc (bool (b i)),ints u64 (c i),sc (int i64 (d i))])),none),bR e,bR f]
theorem start p (a:dU) (b:dU):aF E f192 aE [D.s (sc (int i64 p)),D.rows 3 2 fun i=>[sc (bool (t2 a b i).fst),ints u64 (t2 a b i).snd.fst,sc (int i64 (t2 a b i).snd.snd)]]=letI A:=some [D.s (sc (int i64 1))];aB (decide (p<1)) A (aB (decide (67000<p)) A (nR.J3 2 (fun i=>(t2 a b i).fst) (fun i=>(t2 a b i).snd.fst) fun i=>(t2 a b i).snd.snd)):=eJ aU
theorem gL a b c d:J3 a b c d=nR.L4 a (fun i=>b i) (fun i=>c i) (fun i=>d i) a (fun i=>b i) (fun i=>c i) (fun i=>d i) (a:Int) 0:=cJ aU
theorem kV a b c d e f g h j k:L4 a b c d e f g h j k=aB (decide (k<j)) (if 0<=k/\k<(e:Int)then aQ (aJ (f k.toNat,g k.toNat,h k.toNat)) (nR.L4 a (fun i=>b i) (fun i=>c i) (fun i=>d i) e (fun i=>f i) (fun i=>g i) (fun i=>h i) j (i64.wrap (k+1)))else none) (nR.Ir a (fun i=>b i) (fun i=>c i) (fun i=>d i) (a:Int) 0):=lJ aU
theorem sL a b c d e f:Ir a b c d e f=letI F:=some [D.s (sc (int i64 5))];letI C:=(b f.toNat,c f.toNat,d f.toNat);letI B:=(false,c f.toNat,d f.toNat);letI A:=(isNeg (aK 1 0).fst,M6.dg (aK 1 0).fst.natAbs,(aK 1 0).snd);aB (decide (f<e)) (if 0<=f/\f<(a:Int)then aB ((↑(c f.toNat).length:Int)==(0:Int)) (nR.Ir a (fun i=>b i) (fun i=>c i) (fun i=>d i) e (i64.wrap (f+1))) (aQ ((-9223372036854775808:Int)<=(1:Int)/\(1:Int)<(9223372036854775808:Int)) (aQ (aJ B/\aJ A) (aQ (aJ C) (aB (decide (0<lG (bM.lK (dv B) (dv A)) (bM.lI (dv B) (dv A)))) F (aB (decide ((if(dv C).fst=0 then(0:Int)else d f.toNat+(↑(bl (M6.val (c f.toNat))):Int)-(1:Int))<(-524288:Int))) F (nR.Ir a (fun i=>b i) (fun i=>c i) (fun i=>d i) e (i64.wrap (f+1))))))))else none) (some [D.s (sc (int i64 0))]):=lJ aU
abbrev Ki:=oU.Ki
def sp(p:Int)(a:dU×dU):Prop×List D:=((1<=p/\p<=67000)/\Ki a.1/\Ki a.2,[.s (.sc (.int .i64 0))])
theorem LB(n:Nat)(f:Nat->dU)(hn:n<=1000)(hf:∀i,i<n->Ki (f i)):∀d k:Nat,k+d=n->Ir n (fun i=>(f i).1) (fun i=>(f i).2.1) (fun i=>(f i).2.2) (n:Int) (k:Int)=some [.s (.sc (.int .i64 0))]
 |0,k,h=>by rw[sL,aI]
 |d+1,k,h=>by
  have e:i64.wrap ((k:Int)+1)=((k+1:Nat):Int):=by rw[wrap_i64];omega
  have r:=LB n f hn hf d (k+1) (by omega);obtain⟨hx,ht⟩:=hf k (by omega);have hz:=M6.cS hx.Iz;have ha:(dv (f k)).1.natAbs=M6.val (f k).2.1:=iZ ((f k).1,(f k).2.1);rw[sL,aO,aT,bQX,e]
  by_cases h0:(f k).2.1.length=0
  ·rw[cF];exact r
  ·have hv:(dv (f k)).1≠0:=fun hc=>h0 (hz.2 (by omega))
   obtain⟨t1,t2⟩:=ht hv;have n1:aK 1 0=(1,0):=by decide +kernel
   have pn:jG (1,0):=⟨by decide +kernel,⟨by decide,by decide⟩,fun h=>absurd h (by decide),fun _=>by decide⟩;have v1:=dK ((1,0):Int×Int);have ok:aJ (false,(f k).2.1,(f k).2.2):=⟨⟨hx.1.1,fun hf=>(by cases hf),hx.1.len⟩,hx.2⟩;have vx:dv (false,(f k).2.1,(f k).2.2)=((((dv (f k)).1.natAbs:Nat):Int),(dv (f k)).2):=by rw[ha];rfl
   have bKP:((f k).1,(f k).2.1,(f k).2.2)=f k:=rfl;simp only[n1,v1,vx,bKP];rw[bS,gP ⟨by decide,by decide⟩,gP ⟨ok,cQ pn⟩,gP hx];have bHJ:¬0<lG (bM.lK ((((dv (f k)).1.natAbs:Nat):Int),(dv (f k)).2) (1,0)) (bM.lI ((((dv (f k)).1.natAbs:Nat):Int),(dv (f k)).2) (1,0)):=Int.not_lt.2 t1;have bHI:¬(f k).2.2+((bl (M6.val (f k).2.1):Nat):Int)-1 < -524288:=by
    rw[ha]at t2;have:(dv (f k)).2=(f k).2.2:=rfl;omega
   rw[aI bHJ,if_neg hv,aI bHI];exact r
theorem LA(n:Nat)(f:Nat->dU)(hn:n<=1000)(hf:∀i,i<n->Ki (f i)):∀d k:Nat,k+d=n->L4 n (fun i=>(f i).1) (fun i=>(f i).2.1) (fun i=>(f i).2.2) n (fun i=>(f i).1) (fun i=>(f i).2.1) (fun i=>(f i).2.2) (n:Int) (k:Int)=some [.s (.sc (.int .i64 0))]
 |0,k,h=>by rw[kV,aI];exact LB n f hn hf n 0 (by omega)
 |d+1,k,h=>by
  have e:i64.wrap ((k:Int)+1)=((k+1:Nat):Int):=by rw[wrap_i64];omega
  rw[kV,aO,aT,bQX,gP (hf k (by omega)).1,e];exact LA n f hn hf d (k+1) (by omega)
theorem spec:fO E f192 aE (pN .i64) (aBD (.pair sB (.pair (sI .u64) (sN .i64))) (false,[],0)) sp:=by
 rintro p a ⟨⟨p0,p1⟩,h⟩;have hf:∀i,i<2->Ki (t2 a.1 a.2 i):=fun i hi=>by
  obtain rfl |rfl:i=0\/i=1:=by omega
  ·exact h.1
  ·exact h.2
 refine(start p a.1 a.2).trans ?_;rw[aI,aI,gL];exact LA 2 (fun i=>t2 a.1 a.2 i) (by decide) hf 2 0 (by omega)
def aH:dC:=orc2 (pN .i64) (aBD (.pair sB (.pair (sI .u64) (sN .i64))) (false,[],0)) sp
theorem ok:OK 192 aH:=(eI E aE (aA lB.ok (aA Kg.ok (aA aLO.ok (aA Bo.ok aD)))) func192).lP rfl spec
end nR
namespace Dh
def E:=mE [(45,sK.aH),(192,nR.aH)] 21 [20] [(3,[1,2])] [3]
def aE:=bd f150
theorem aU:Nk E aE:=nk
def J3 a b c d e f g:=lD E f150 aE 3 [bR a,dG 1 31 [cG b,eM c,cP d,cG e,eM f,cP g]]
theorem start a c d e f g b:aF E f150 aE [D.agg [sc (bool a),ints u64 c,sc (int i64 d),sc (bool e),ints u64 f,sc (int i64 g)],D.s (sc (int i64 b))]=letI A:=some [D.s (sc (int i64 1))];aB (decide (b<1)) A (aB (decide (67000<b)) A (Dh.J3 b a c d e f g)):=eJ aU
theorem gL a b c d e f g:J3 a b c d e f g=aQ (eB (b,c,d,e,f,g)) (aQ ((1<=a/\a<=67000)/\nR.Ki (b,c,d)/\nR.Ki (e,f,g)) (some [D.s (sc (int i64 0))])):=cJ aU
def sp(s:rQ)(p:Int):Prop×List D:=((1<=p/\p<=67000)/\eB s/\oU.Ki (gM s)/\oU.Ki (gN s),[.s (.sc (.int .i64 0))])
theorem spec:fO E f150 aE sT (pN .i64) sp:=by
 rintro s p ⟨⟨p0,p1⟩,h1,h2,h3⟩;refine(start s.1 s.2.1 s.2.2.1 s.2.2.2.1 s.2.2.2.2.1 s.2.2.2.2.2 p).trans ?_;rw[aI,aI]
 first
  |exact(gP h1).trans (gP ⟨⟨p0,p1⟩,h2,h3⟩)
  | (rw[gL];exact(gP h1).trans (gP ⟨⟨p0,p1⟩,h2,h3⟩))
def aH:dC:=orc2 sT (pN .i64) sp
theorem ok:OK 150 aH:=(eI E aE (aA sK.ok (aA nR.ok aD)) func150).lP rfl spec
end Dh
namespace cU
def E:=mE [(150,Dh.aH),(62,Dj.aH),(113,Kg.aH),(58,gA.aH),(152,bC.aH)] 61 [17] [(10,[1,2,4,9,10]),(13,[1,4,9,10])] [10,13]
def aE:=bd f95
theorem aU:Nk E aE:=nk
def aBA a b c d e f g h i j k l m n o p q:=lD E f95 aE 10 [bR a,dG 1 31 [cG b,eM c,cP d,cG e,eM f,cP g],dG 2 31 [cG h,sc (slice none 0 0),cP i,cG j,sc (slice none 0 0),cP k],dG 3 29 [cG l,eM m,cP n],dG 4 29 [cG o,eM p,cP q]]
def Sl a b c d e f g h i j:=lD E f95 aE 13 [bR a,dG 1 31 [cG b,sc (slice none 0 0),cP c,cG d,sc (slice none 0 0),cP e],dG 2 29 [cG f,sc (slice none 0 0),cP g],dG 3 29 [cG h,eM i,cP j]]
def aQV a b c d e f g h i j k:=lD E f95 aE 13 [bR a,dG 1 31 [cG b,sc (slice none 0 0),cP c,cG d,sc (slice none 0 0),cP e],dG 2 29 [cG f,eM g,cP h],dG 3 29 [cG i,eM j,cP k]]
theorem start a c d e f g b:aF E f95 aE [D.agg [sc (bool a),ints u64 c,sc (int i64 d),sc (bool e),ints u64 f,sc (int i64 g)],D.s (sc (int i64 b))]=letI C:=(false,f,g);letI B:=(false,c,d);letI A:=(a,c,d,e,f,g);aQ ((1<=b/\b<=67000)/\eB A/\oU.Ki (gM A)/\oU.Ki (gN A)) (aQ (aJ B/\aJ C) (aC (lG (bM.lK (dv B) (dv C)) (bM.lI (dv B) (dv C))) fun h=>aB (decide (0<h)) (cU.aBA b a c d e f g false 0 false 0 false f g false c d) (cU.aBA b a c d e f g false 0 false 0 false c d false f g))):=eJ aU
theorem Iu a b c d e f g h i j k l m n o p q:aBA a b c d e f g h i j k l m n o p q=letI A:=(b,c,d,e,f,g);aQ (eB A) (aC (gA.vM (dv (gM A)) (dv (gN A))) fun r=>aB (r==0) (cU.Sl a h i j k false 0 o p q) (cU.aQV a h i j k l m n o p q)):=cJ aU
theorem zQ a b c d e f g h i j:Sl a b c d e f g h i j=letI A:=i64.wrap (a+2);letI C:=bC.rD (dv (h,i,j)) A;letI B:=bC.qD (dv (f,[],g)) A;aQ (bC.aAQ (h,i,j) A) (aC (isNeg C.fst) fun k=>aC (M6.dg C.fst.natAbs) fun l=>aC C.snd fun m=>aQ (bC.aAQ (f,[],g) A) (aC (isNeg B.fst) fun n=>aC (M6.dg B.fst.natAbs) fun o=>aC B.snd fun p=>some [D.agg [sc (bool k),ints u64 l,sc (int i64 m),sc (bool n),ints u64 o,sc (int i64 p)],D.s (sc (int i64 0))])):=cJ aU
theorem aLN a b c d e f g h i j k:aQV a b c d e f g h i j k=letI A:=i64.wrap (a+2);letI C:=bC.qD (dv (f,g,h)) A;letI B:=bC.rD (dv (i,j,k)) A;aQ (bC.aAQ (i,j,k) A) (aC (isNeg B.fst) fun l=>aC (M6.dg B.fst.natAbs) fun m=>aC B.snd fun n=>aQ (bC.aAQ (f,g,h) A) (aC (isNeg C.fst) fun o=>aC (M6.dg C.fst.natAbs) fun p=>aC C.snd fun q=>some [D.agg [sc (bool l),ints u64 m,sc (int i64 n),sc (bool o),ints u64 p,sc (int i64 q)],D.s (sc (int i64 0))])):=cJ aU
def Sz(x:dU):dU:=(false,x.2.1,x.2.2)
def zH(s:rQ):dU:=bif decide (0<cO (dv (Sz (gM s))) (dv (Sz (gN s))))then Sz (gM s)else Sz (gN s)
def sU(s:rQ):dU:=bif gA.vM (dv (gM s)) (dv (gN s))==0 then(false,[],0)else bif decide (0<cO (dv (Sz (gM s))) (dv (Sz (gN s))))then Sz (gN s)else Sz (gM s)
def aLA(s:rQ)(p:Int):Prop:=((1<=p/\p<=67000)/\eB s/\oU.Ki (gM s)/\oU.Ki (gN s))/\(bC.sp (zH s) (p+2)).1/\(bC.sp (sU s) (p+2)).1
def sp(s:rQ)(p:Int):Prop×List D:=(aLA s p,[yM (bC.rD (dv (zH s)) (p+2)) (bC.qD (dv (sU s)) (p+2)),.s (.sc (.int .i64 0))])
theorem JN{s:rQ}{p:Int}(hp:1<=p/\p<=67000)(hs:eB s){n f:dU}(hf:(bC.sp f (p+2)).1)(hn:(bC.sp (bif gA.vM (dv (gM s)) (dv (gN s))==0 then(false,[],0)else n) (p+2)).1) :
  aBA p s.1 s.2.1 s.2.2.1 s.2.2.2.1 s.2.2.2.2.1 s.2.2.2.2.2 false 0 false 0 n.1 n.2.1 n.2.2 f.1 f.2.1 f.2.2=some [yM (bC.rD (dv f) (p+2)) (bC.qD (dv (bif gA.vM (dv (gM s)) (dv (gN s))==0 then(false,[],0)else n)) (p+2)),.s (.sc (.int .i64 0))]:=by
 have w:i64.wrap (p+2)=p+2:=wrap_i64;rw[Iu,gP hs,aL];show aB (gA.vM (dv (gM s)) (dv (gN s))==0) _ _=_
 by_cases c:gA.vM (dv (gM s)) (dv (gN s))=0
 ·rw[show(gA.vM (dv (gM s)) (dv (gN s))==0)=true from beq_iff_eq.2 c,cond_true]at hn ⊢;show Sl _ _ _ _ _ _ _ _ _ _=_;rw[zQ];simp only[w,aL];exact(gP hf).trans ((gP hn).trans rfl)
 ·rw[show(gA.vM (dv (gM s)) (dv (gN s))==0)=false from beq_eq_false_iff_ne.2 c,cond_false]at hn ⊢;show aQV _ _ _ _ _ _ _ _ _ _ _=_;rw[aLN];simp only[w,aL];exact(gP hf).trans ((gP hn).trans rfl)
theorem spec:fO E f95 aE sT (pN .i64) sp:=by
 rintro s p ⟨h1,h2,h3⟩;refine(start s.1 s.2.1 s.2.2.1 s.2.2.2.1 s.2.2.2.2.1 s.2.2.2.2.2 p).trans ?_;have ab:∀x:dU,aJ x->aJ (Sz x):=fun x hx=>⟨⟨hx.1.1,fun hf=>(by cases hf),hx.1.len⟩,hx.2⟩
 refine(gP h1).trans ((gP ⟨ab _ h1.2.1.1,ab _ h1.2.1.2.1⟩).trans ?_);rw[aL];unfold sp;unfold zH sU at *;dsimp only;show aB (decide (0<cO (dv (Sz (gM s))) (dv (Sz (gN s))))) _ _=_
 by_cases c:0<cO (dv (Sz (gM s))) (dv (Sz (gN s)))
 ·rw[aO c];rw[decide_eq_true c,cond_true,cond_true]at *;exact JN h1.1 h1.2.1 h2 h3
 ·rw[aI c];rw[decide_eq_false c,cond_false,cond_false]at *;exact JN h1.1 h1.2.1 h2 h3
def aH:dC:=orc2 sT (pN .i64) sp
theorem ok:OK 95 aH:=(eI E aE (aA Dh.ok (aA Dj.ok (aA Kg.ok (aA gA.ok (aA bC.ok aD))))) func95).lP rfl spec
end cU
namespace sH
def E:=mE [(150,Dh.aH),(151,eR.aH)] 27 [9] [] []
def aE:=bd f94
theorem aU:Nk E aE:=nk
theorem start a c d e f g b:aF E f94 aE [D.agg [sc (bool a),ints u64 c,sc (int i64 d),sc (bool e),ints u64 f,sc (int i64 g)],D.s (sc (int i64 b))]=letI F:=(a,c,d,e,f,g);letI A:=i64.wrap (b+2);letI C:=eR.Mg (dv (e,f,g)) A;letI B:=eR.Mf (dv (a,c,d)) A;aQ ((1<=b/\b<=67000)/\eB F/\oU.Ki (gM F)/\oU.Ki (gN F)) (aQ (eR.aIZ (a,c,d) A) (aC (isNeg B.fst) fun h=>aC (M6.dg B.fst.natAbs) fun i=>aC B.snd fun j=>aQ (eR.aIZ (e,f,g) A) (aC (isNeg C.fst) fun k=>aC (M6.dg C.fst.natAbs) fun l=>aC C.snd fun m=>some [D.agg [sc (bool h),ints u64 i,sc (int i64 j),sc (bool k),ints u64 l,sc (int i64 m)],D.s (sc (int i64 0))]))):=eJ aU
def aCN(s:rQ)(p:Int):Prop:=((1<=p/\p<=67000)/\eB s/\oU.Ki (gM s)/\oU.Ki (gN s))/\(eR.sp (gM s) (p+2)).1/\(eR.sp (gN s) (p+2)).1
def sp(s:rQ)(p:Int):Prop×List D:=(aCN s p,[yM (eR.Mf (dv (gM s)) (p+2)) (eR.Mg (dv (gN s)) (p+2)),.s (.sc (.int .i64 0))])
theorem spec:fO E f94 aE sT (pN .i64) sp:=by
 rintro s p ⟨h1,h2,h3⟩;have p0:=h1.1;refine(start s.1 s.2.1 s.2.2.1 s.2.2.2.1 s.2.2.2.2.1 s.2.2.2.2.2 p).trans ?_;have w:i64.wrap (p+2)=p+2:=wrap_i64;simp only[w];rw[gP h1];simp only[aL];exact(gP h2).trans ((gP h3).trans rfl)
def aH:dC:=orc2 sT (pN .i64) sp
theorem ok:OK 94 aH:=(eI E aE (aA Dh.ok (aA eR.ok aD)) func94).lP rfl spec
end sH
end W
namespace R
def fv(fn:Int)(x:Rat)(k:Int):Rat:=if fn=1 then Sf x k else if fn=2 then Cf x k else Sf x k/Cf x k
end R
namespace M
open Go AI W
def mg(p:Int):Rat:=if p<2500 then 0 else R.pz (-p-1500)
theorem aMG(p:Int):0<=mg p:=by
 unfold mg;split
 ·exact bTP
 ·exact bSJ (R.dJ _)
theorem aMH(p:Int):mg p<=R.pz (-p-1500):=by
 unfold mg;split
 ·exact bSJ (R.dJ _)
 ·exact bTP
structure kR(u v:Int×Int)(a:Rat)(p:Int):Prop where
 pu:jG u
 pv:jG v
 a0:R.pz (-1074)<=a
 a1:a<=79/100
 lu:R.ab (R.qz u)<=a
 lv:a<=R.ab (R.qz v)
 wd:R.ab (R.qz v)-R.ab (R.qz u)<=R.pz (-p-23)*a
theorem aNZ{p:Int}(hp:-6<=p):R.pz (-p-23)<=1/131072:=by
 have:=R.dR (show -p-23<=-17 by omega);have e:=R.fJ 0 (n:=17) (c:=131072) (by norm_cast);rw[R.fS,show(0:Int)-((17:Nat):Int)=-17 by rfl]at e;grind
theorem kR.more{u v:Int×Int}{a:Rat}{p:Int}(h:kR u v a p)(hp:-6<=p):0<a/\3/4*a<=R.ab (R.qz u)/\R.ab (R.qz v)<=5/4*a/\R.ab (R.qz v)<=4/5/\u.1≠0/\v.1≠0/\-1075<=bB u/\-1075<=bB v:=by
 obtain⟨_,_,a0,a1,lu,lv,wd⟩:=h;have ap:0<a:=by have:=R.dJ (-1074);grind
 have bHF:=aNZ hp;have m:=R.aG (bSJ ap) (show 0<=1/131072-R.pz (-p-23) by grind);have u1:3/4*a<=R.ab (R.qz u):=by grind
 have Vw:u.1≠0:=Kt (by intro hz;rw[hz,R.bG bTP]at u1;grind);have aBC:v.1≠0:=Kt (by intro hz;rw[hz,R.bG bTP]at lv;grind);have t:R.pz (-1075)*2=R.pz (-1074):=by have:=R.pU (-1074);rw[show(-1074:Int)-1=-1075 by rfl]at this;exact this
 have tp:=R.dJ (-1075);exact⟨ap,u1,by grind,by grind,Vw,aBC,Bw Vw (by grind),Bw aBC (by grind)⟩
theorem aCT{u v:Int×Int}{a:Rat}{p n:Int}(h:kR u v a p)(hp:-6<=p/\p<=66000)(hn:p+14<=n/\n<=p+150/\1<=n):aRW u n/\aRW v n/\Bx (eR.qT u n,eR.pT v n) (R.sn a) (R.pz (-p-12)*R.ab (R.sn a)) (mg p):=by
 obtain⟨ap,u1,v1,v2,Vw,aBC,tu,tv⟩:=h.more hp.1;obtain⟨pu,pv,a0,a1,lu,lv,wd⟩:=h;have nu:=Ps pu Vw (p:=n) (by grind) (by omega) (by omega);have nv:=Ps pv aBC (p:=n) (by grind) (by omega) (by omega);refine⟨nu,nv,nu.pl,nv.ph,bNX nu.bl (by decide),bNX nv.bh (by decide),aMG p,?_,?_,?_⟩
 ·dsimp only;have h1:=nu.lo;have h2:=R.Wi (x:=R.ab (R.qz u)) (y:=a) (by rw[R.bG (R.aN _)];grind) (by rw[R.bG (by grind)];grind) lu;have h3:=aMH p;have h4:R.pz (-p-1500)<=R.pz (bB u-n-270):=R.dR (by omega);grind
 ·dsimp only;have h2:=R.Wi (x:=a) (y:=R.ab (R.qz v)) (by rw[R.bG (by grind)];grind) (by rw[R.bG (R.aN _)];grind) lv;unfold mg;split
  ·have:=nv.hi;grind
  ·have:=nv.mh (by omega);have h4:R.pz (-p-1500)<=R.pz (bB v-n-270):=R.dR (by omega);grind
 ·dsimp only;have k1:=nu.wd;have k2:=nv.wd;have k3:=nu.hi;have k4:=nv.lo;have pz1:=R.dJ (bB v-n-270);have aZC:=R.Wj (x:=R.ab (R.qz u)) (y:=R.ab (R.qz v)) (by rw[R.bG (R.aN _)];grind) (by rw[R.bG (R.aN _)];grind);rw[R.bG (show 0<=R.ab (R.qz v)-R.ab (R.qz u) by grind)]at aZC;have l2:=R.Ao (R.sn (R.ab (R.qz v))-R.sn (R.ab (R.qz u)));obtain⟨s1,s2⟩:=R.Wl (bSJ ap) (show a<=4/5 by grind);rw[R.bG (show 0<=R.sn a by grind)];have aSB:=R.dR (show -n-1<=-p-15 by omega);have k1:=bSH k1 (cAZ aSB (R.aN (R.qz u)));have k2:=bSH k2 (cAZ aSB (R.aN (R.qz v)));have bCR:R.pz (-p-15)=256*R.pz (-p-23):=by
   have:=R.fJ (-p-15) (n:=8) (c:=256) (by norm_cast);rw[show -p-15-((8:Nat):Int)=-p-23 by omega]at this;grind
  have bCS:R.pz (-p-12)=2048*R.pz (-p-23):=by
   have:=R.fJ (-p-12) (n:=11) (c:=2048) (by norm_cast);rw[show -p-12-((11:Nat):Int)=-p-23 by omega]at this;grind
  have zp:=R.dJ (-p-23);rw[bCR]at k1 k2;rw[bCS];generalize R.pz (-p-23)=z at *;have m1:=R.aG (bSJ zp) (show 0<=5/4*a-R.ab (R.qz v) by grind);have m2:=R.aG (bSJ zp) (show 0<=a-R.ab (R.qz u) by grind);have m3:=R.aG (bSJ zp) (show 0<=R.sn a-4/5*a by grind);have m4:=R.aG (bSJ zp) (bSJ ap);grind
theorem aFP{n:Nat}(h:n<=1048576):R.sO<=R.pz (-(n:Int)):=by
 rw[R.wR];exact R.yD h
theorem aPY{u v:Int×Int}{a:Rat}{p n:Int}(h:kR u v a p)(hp:-6<=p/\p<=66000)(hn:p+14<=n/\n<=p+150/\1<=n):aYF u n/\aYF v n/\Bx (bC.rD v n,bC.qD u n) (R.cs a) (R.pz (-p-12)*R.ab (R.cs a)) (mg p):=by
 obtain⟨ap,u1,v1,v2,Vw,aBC,tu,tv⟩:=h.more hp.1;obtain⟨pu,pv,a0,a1,lu,lv,wd⟩:=h;have nu:=Hv (x:=u) (p:=n) (by grind) (fun _=>by omega) (by omega);have nv:=Hv (x:=v) (p:=n) (by grind) (fun _=>by omega) (by omega);have he:2*R.sO<=R.pz (-p-1501):=by
  have:=aFP (n:=100000) (by omega);have h2:=R.dR (show -((100000:Nat):Int)+1<=-p-1501 by omega);rw[R.jJ]at h2;grind
 have e1500:R.pz (-p-1500)=2*R.pz (-p-1501):=by rw[<-R.jJ];congr 1;omega
 have pp:=R.dJ (-p-1501);have m1:=R.Yi (x:=R.ab (R.qz u)) (y:=a) (R.aN _) lu (by grind);have m2:=R.Yi (x:=a) (y:=R.ab (R.qz v)) (bSJ ap) lv (by grind);have mm:=aMH p;obtain⟨c1,c2⟩:=R.Lc (r:=a) (by rw[R.bG (bSJ ap)];grind);refine⟨nu,nv,nv.pl,nu.ph,bNX nv.bl (by decide),bNX nu.bh (by decide),aMG p,?_,?_,?_⟩
 ·dsimp only;have:=nv.ml aBC;have h4:R.pz (-p-1499)<=R.pz (bB v-n-270):=R.dR (by omega);have aVY:R.pz (-p-1499)=2*R.pz (-p-1500):=by rw[<-R.jJ];congr 1;omega
  grind
 ·dsimp only
  by_cases c:2*bB u+8 < -n
  ·have e:bC.qD u n=(1,0):=by
    have et:aP.gR u=bB u:=by unfold aP.gR bB;rw[if_neg Vw]
    unfold bC.qD;rw[et,if_neg Vw,if_pos c]
   unfold mg;rw[aT,e,mS];grind
  ·have:=nu.mh Vw c;have h4:R.pz (-p-1499)<=R.pz (bB u-n-270):=R.dR (by omega);have aVY:R.pz (-p-1499)=2*R.pz (-p-1500):=by rw[<-R.jJ];congr 1;omega
   grind
 ·dsimp only;have k1:=nu.wd;have k2:=nv.wd;have k3:=nu.lo;have k4:=nv.hi;have aZC:=R.aGI (x:=R.ab (R.qz u)) (y:=R.ab (R.qz v)) (by rw[R.bG (R.aN _)];grind) (by rw[R.bG (R.aN _)];grind);rw[R.bG (show 0<=R.ab (R.qz v)-R.ab (R.qz u) by grind)]at aZC;have l2:=R.mW (R.cs (R.ab (R.qz v))-R.cs (R.ab (R.qz u)));rw[R.bG (show 0<=R.cs a by grind)];have aSB:=R.dR (show -n-1<=-p-15 by omega);have k1:=bSH k1 aSB;have k2:=bSH k2 aSB;have bCR:R.pz (-p-15)=256*R.pz (-p-23):=by
   have:=R.fJ (-p-15) (n:=8) (c:=256) (by norm_cast);rw[show -p-15-((8:Nat):Int)=-p-23 by omega]at this;grind
  have bCS:R.pz (-p-12)=2048*R.pz (-p-23):=by
   have:=R.fJ (-p-12) (n:=11) (c:=2048) (by norm_cast);rw[show -p-12-((11:Nat):Int)=-p-23 by omega]at this;grind
  have zp:=R.dJ (-p-23);have h5:R.pz (-p-1501)<=R.pz (-p-23):=R.dR (by omega);rw[bCR]at k1 k2;rw[bCS];generalize R.pz (-p-23)=z at *;have m3:=R.aG (bSJ zp) (show 0<=R.cs a-17/25 by grind);have m4:=R.aG (bSJ zp) (show 0<=1-a by grind);grind
def rS(x:Int×Int)(w q:Int):(Int×Int)×(Int×Int):=(eR.Mf (rJ.bGL x w) q,eR.Mg (rJ.bGM x w) q)
def bDZ(x:Int×Int)(w:Int):rQ:=mQ (rJ.bGL x w) (rJ.bGM x w)
def rC(x:Int×Int)(w q:Int):(Int×Int)×(Int×Int):=(bC.rD (dv (cU.zH (bDZ x w))) q,bC.qD (dv (cU.sU (bDZ x w))) q)
theorem Wd{x:Int×Int}(h:x.1≠0):aP.gR x=bB x:=by unfold aP.gR bB;rw[if_neg h]
theorem aLV{x:dU}{p:Int}(hx:aJ x)(hp:1<=p/\p<=67100)(ht:-1200<=bB (dv x))(n:aRW (dv x) p):eR.aIZ x p:=by
 refine⟨hx,hp,fun h0=>?_⟩;rw[Wd h0];refine⟨by omega,n.pl,n.ph,jT.2 ?_,n.aYT,n.okB⟩;have h1:=n.lo;have h2:=n.hi;have h3:=R.dJ (bB (dv x)-p-270);grind
theorem aNE{x:dU}{p:Int}(hx:aJ x)(hp:1<=p/\p<=67100)(ht:(dv x).1≠0->-1200<=bB (dv x))(n:aYF (dv x) p):bC.aAQ x p:=by
 refine⟨hx,hp,fun h0=>?_⟩;have:=ht h0;rw[Wd h0];exact⟨by omega,n.aYT h0,n.okB h0⟩
theorem Nu(a b:Int×Int):dv (cU.Sz (gM (mQ a b)))=((a.1.natAbs:Int),a.2):=by
 show((M6.val (M6.dg a.1.natAbs):Int),a.2)=_;rw[M6.bJ]
theorem Nv(a b:Int×Int):dv (cU.Sz (gN (mQ a b)))=((b.1.natAbs:Int),b.2):=by
 show((M6.val (M6.dg b.1.natAbs):Int),b.2)=_;rw[M6.bJ]
theorem Oi{x:dU}(hx:aJ x):aJ (cU.Sz x):=⟨⟨hx.1.1,fun hf=>(by cases hf),hx.1.len⟩,hx.2⟩
theorem qG(p:Int×Int):R.ab (R.qz ((p.1.natAbs:Int),p.2))=R.ab (R.qz p):=by rw[Gl,R.bG (R.aN _)]
theorem Rc{a b:Int×Int}(hs:gA.vM a b≠0)(ha:jG a)(hb:jG b) :
  (aJ (cU.zH (mQ a b))/\aJ (cU.sU (mQ a b))) /\
  ((R.ab (R.qz b)<R.ab (R.qz a)/\dv (cU.zH (mQ a b))=((a.1.natAbs:Int),a.2)/\dv (cU.sU (mQ a b))=((b.1.natAbs:Int),b.2)) \/
  (R.ab (R.qz a)<=R.ab (R.qz b)/\dv (cU.zH (mQ a b))=((b.1.natAbs:Int),b.2)/\dv (cU.sU (mQ a b))=((a.1.natAbs:Int),a.2))):=by
 have oa:aJ (gM (mQ a b)):=cQ ha;have ob:aJ (gN (mQ a b)):=cQ hb;unfold cU.zH cU.sU;rw[qJ,qK,show(gA.vM a b==0)=false from beq_eq_false_iff_ne.2 hs,cond_false,Nu,Nv];have hc:=tA (p:=((a.1.natAbs:Int),a.2)) (q:=((b.1.natAbs:Int),b.2));rw[Gl,Gl]at hc
 by_cases h:R.ab (R.qz b)<R.ab (R.qz a)
 ·rw[decide_eq_true (hc.2 h),cond_true,cond_true,Nu,Nv];exact⟨⟨Oi oa,Oi ob⟩,Or.inl ⟨h,rfl,rfl⟩⟩
 ·rw[decide_eq_false (fun hh=>h (hc.1 hh)),cond_false,cond_false,Nu,Nv];exact⟨⟨Oi ob,Oi oa⟩,Or.inr ⟨Rat.not_lt.1 h,rfl,rfl⟩⟩
theorem aIY{a:Int×Int}{x:dU}(hx:aJ x)(e:dv x=a)(h1:R.ab (R.qz a)<=1)(ht:a.1≠0->-1200<=bB a):oU.Ki x:=by
 refine⟨hx,fun h0=>?_⟩;rw[e]at h0 ⊢;have:=ht h0;refine⟨jT.2 (by rw[Gl,mS];exact h1),?_⟩;unfold bB at this;omega
theorem aDZ{s:(Int×Int)×(Int×Int)}{V W m:Rat}(h:Bx s V W m)(h1:-1<=R.qz s.1)(h2:R.qz s.2<=1):R.ab (R.qz s.1)<=1/\R.ab (R.qz s.2)<=1:=by
 have:=h.lo;have:=h.hi;have:=h.m0;constructor <;> (rw[R.cT];constructor <;> grind)
def gS(l h:Int×Int)(q:Int):(Int×Int)×(Int×Int):=(eR.Mf l q,eR.Mg h q)
def gC(l h:Int×Int)(q:Int):(Int×Int)×(Int×Int):=(bC.rD (dv (cU.zH (mQ l h))) q,bC.qD (dv (cU.sU (mQ l h))) q)
structure bDE(l h:Int×Int)(p n:Int)(r:Rat):Prop where
 so:sH.aCN (mQ l h) (n-2)
 co:cU.aLA (mQ l h) (n-2)
 s:Bx (gS l h n) (R.sn r) (R.pz (-p-12)*R.ab (R.sn r)) (mg p)
 c:Bx (gC l h n) (R.cs r) (R.pz (-p-12)*R.ab (R.cs r)) (mg p)
 s1:R.ab (R.qz (gS l h n).1)<=1/\R.ab (R.qz (gS l h n).2)<=1
 c1:R.ab (R.qz (gC l h n).1)<=1/\R.ab (R.qz (gC l h n).2)<=1
theorem aNN{l h:Int×Int}{p n:Int}{r:Rat}(hp:-6<=p/\p<=66000)(hn:p+14<=n/\n<=p+150/\3<=n)(pl:jG l)(ph:jG h)(lo:R.qz l<=r)(hi:r<=R.qz h)(wd:R.qz h-R.qz l<=R.pz (-p-23)*R.ab r)(rg:R.pz (-1074)<=R.ab r)(nl:R.ab r<=79/100):bDE l h p n r:=by
 have aBI:p+14<=n/\n<=p+150/\1<=n:=by omega
 have bHF:=aNZ hp.1;have rp:0<R.ab r:=by have:=R.dJ (-1074);grind
 have m:=R.aG (bSJ rp) (show 0<=1/131072-R.pz (-p-23) by grind);have tok:∀q:Int,q=n-2->(1<=q/\q<=67000):=fun q hq=>by omega
 have oa:aJ (gM (mQ l h)):=cQ pl;have ob:aJ (gN (mQ l h)):=cQ ph;have ea:dv (gM (mQ l h))=l:=qJ _ _;have eb:dv (gN (mQ l h))=h:=qK _ _;have sk:eB (mQ l h):=qQ pl ph (jT.2 (by grind));have aRU:n-2+2=n:=by omega
 have fin:∀(a:Rat),a=R.ab r->R.ab (R.qz l)<=4/5->R.ab (R.qz h)<=4/5 ->
   (l.1≠0/\-1075<=bB l)->(h.1≠0/\-1075<=bB h) ->
   aRW l n->aRW h n ->
   kR (dv (cU.sU (mQ l h))) (dv (cU.zH (mQ l h))) a p->aJ (cU.zH (mQ l h))->aJ (cU.sU (mQ l h)) ->
   Bx (gS l h n) (R.sn r) (R.pz (-p-12)*R.ab (R.sn r)) (mg p)->-1<=R.qz (gS l h n).1->R.qz (gS l h n).2<=1->bDE l h p n r:=by
  intro a ha l1 l2 t1 t2 n1 n2 par of on bs b1 b2;obtain⟨cu,cv,cb⟩:=aPY par hp aBI;obtain⟨_,_,_,_,_,_,tu,tv⟩:=par.more hp.1;have ec:R.cs a=R.cs r:=by rw[ha];exact R.aGJ r
  rw[ec]at cb;refine⟨⟨⟨tok _ rfl,sk,aIY oa ea (by grind) (fun _=>by omega),aIY ob eb (by grind) (fun _=>by omega)⟩,?_,?_⟩,⟨⟨tok _ rfl,sk,aIY oa ea (by grind) (fun _=>by omega),aIY ob eb (by grind) (fun _=>by omega)⟩,?_,?_⟩,bs,cb,aDZ bs b1 b2,aDZ cb ?_ cu.one⟩
  ·rw[aRU];exact aLV oa (by omega) (by rw[ea];omega) (by rw[ea];exact n1)
  ·rw[aRU];exact aLV ob (by omega) (by rw[eb];omega) (by rw[eb];exact n2)
  ·rw[aRU];exact aNE of (by omega) (fun _=>by omega) cv
  ·rw[aRU];exact aNE on (by omega) (fun _=>by omega) cu
  ·have h1:=cb.wd;have h2:=cb.hi;have h3:=cb.m0;obtain⟨c1,c2⟩:=R.Lc (r:=r) (by grind);rw[R.bG (show 0<=R.cs r by grind)]at h1;have z12:R.pz (-p-12)<=1:=by rw[<-R.fS];exact R.dR (by omega)
   have:=R.aG (show 0<=R.cs r by grind) (show 0<=1-R.pz (-p-12) by grind);show -1<=R.qz (bC.rD (dv (cU.zH (mQ l h))) n);dsimp only at h1 h2;grind
 have t75:R.pz (-1075)*2=R.pz (-1074):=by have:=R.pU (-1074);rw[show(-1074:Int)-1=-1075 by rfl]at this;exact this
 by_cases c:0<r
 ·have er:R.ab r=r:=R.bG (bSJ c);rw[er]at nl wd rg rp m;have al:R.ab (R.qz l)=R.qz l:=R.bG (by grind);have ah:R.ab (R.qz h)=R.qz h:=R.bG (by grind);have par:kR l h r p:=⟨pl,ph,rg,nl,by rw[al];exact lo,by rw[ah];exact hi,by rw[al,ah];exact wd⟩;obtain⟨_,_,_,v2,Vw,aBC,tu,tv⟩:=par.more hp.1;obtain⟨nu,nv,bs⟩:=aCT par hp aBI;have sg:gA.vM l h≠0:=by rw[Th (by grind) (by grind)];decide
  obtain⟨⟨of,on⟩,hd⟩:=Rc sg pl ph;have n1:isNeg l.1=false:=jL.2 (by have:=zC.1 (show 0<R.qz l by grind);omega);have n2:isNeg h.1=false:=jL.2 (by have:=zC.1 (show 0<R.qz h by grind);omega);have eS:gS l h n=(eR.qT l n,eR.pT h n):=by
   unfold gS eR.Mf eR.Mg;rw[if_neg Vw,if_neg aBC,n1,n2];rfl
  refine fin r er.symm (by grind) (by grind) ⟨Vw,tu⟩ ⟨aBC,tv⟩ nu nv ?_ of on (by rw[eS];exact bs) ?_ ?_
  ·rcases hd with ⟨d1,d2,d3⟩ |⟨d1,d2,d3⟩
   ·grind
   ·show kR (dv (cU.sU (mQ _ _))) (dv (cU.zH (mQ _ _))) r p;rw[d2,d3];exact⟨uR pl,uR ph,rg,nl,by rw[qG,al];exact lo,by rw[qG,ah];exact hi,by rw[qG,qG,al,ah];exact wd⟩
  ·rw[eS];have:=nu.pos;dsimp only;grind
  ·rw[eS];exact nv.one
 ·have er:R.ab r=-r:=by
   unfold R.ab
   by_cases hr:0<=r
   ·have:r=0:=by grind
    rw[this,R.bG bTP]at rp;grind
   ·rw[if_neg hr]
  rw[er]at nl wd rg rp m;have al:R.ab (R.qz l)=-R.qz l:=by rw[<-R.fW];exact R.bG (by grind)
  have ah:R.ab (R.qz h)=-R.qz h:=by rw[<-R.fW];exact R.bG (by grind)
  have par:kR h l (-r) p:=⟨ph,pl,rg,nl,by rw[ah];grind,by rw[al];grind,by rw[al,ah];grind⟩;obtain⟨_,_,_,v2,Vw,aBC,tu,tv⟩:=par.more hp.1;obtain⟨nu,nv,bs⟩:=aCT par hp aBI;have sg:gA.vM l h≠0:=by rw[Ti (by grind)];decide
  obtain⟨⟨of,on⟩,hd⟩:=Rc sg pl ph;have n1:isNeg l.1=true:=lS.2 (Gk.1 (by grind));have n2:isNeg h.1=true:=lS.2 (Gk.1 (by grind));have eS:gS l h n=(iD.sQ (eR.pT l n),iD.sQ (eR.qT h n)):=by
   unfold gS eR.Mf eR.Mg;rw[if_neg Vw,if_neg aBC,n1,n2];rfl
  have bn:=bs.neg;have es:-R.sn (-r)=R.sn r:=by rw[R.Ca];grind
  have bML:R.ab (R.sn (-r))=R.ab (R.sn r):=by rw[R.Ca,R.fW]
  rw[es,bML]at bn;refine fin (-r) er.symm (by grind) (by grind) ⟨aBC,tv⟩ ⟨Vw,tu⟩ nv nu ?_ of on (by rw[eS];exact bn) ?_ ?_
  ·show kR (dv (cU.sU (mQ _ _))) (dv (cU.zH (mQ _ _))) (-r) p;rcases hd with ⟨d1,d2,d3⟩ |⟨d1,d2,d3⟩
   ·rw[d2,d3];exact⟨uR ph,uR pl,rg,nl,by rw[qG,ah];grind,by rw[qG,al];grind,by rw[qG,qG,al,ah];grind⟩
   ·rw[d2,d3];exact⟨uR pl,uR ph,rg,nl,by rw[qG,al];grind,by rw[qG,ah];grind,by rw[qG,qG,al,ah];grind⟩
  ·rw[eS];show -1<=R.qz (-(eR.pT l n).1,(eR.pT l n).2);rw[mG];have:=nv.one;grind
  ·rw[eS];show R.qz (-(eR.qT h n).1,(eR.qT h n).2)<=1;rw[mG];have:=nu.pos;grind
end M
namespace M
open Go AI W
theorem aCX{up:Bool}{p:Int×Int}{n:Int}(hn:1<=n)(h:R.ab (R.qz p)<=1):R.ab (R.qz (shD up p n))<=1:=by
 unfold shD bV.mA;rw[mT];split
 ·exact h
 ·rename_i hk;dsimp only;have h0:p.1≠0:=by
   intro hz;rw[hz]at hk;exact hk (by show(bl 0:Int)-n<=0;rw[yH];omega)
  have ht:=zY h0 (by rw[R.fS];exact h);unfold bB at ht;obtain⟨k,Su⟩:=bSE (show 0<=(bl p.1.natAbs:Int)-n by omega);rw[Su,bQX];obtain⟨j,hj⟩:=bSE (show 0<=-(p.2+(k:Int)) by omega);have hz:p.1.natAbs<=2^j*2^k:=by
   rw[Sc]at h;rw[<-bSD];have e1:R.pz p.2*((2^(j+k):Nat):Rat)=1:=by rw[<-R.dW,show p.2+((j+k:Nat):Int)=0 by omega,R.fS]
   have P:(0:Rat)<=((2^(j+k):Nat):Rat):=by exact_mod_cast bTF _
   have m:=R.aG P (show 0<=1-(p.1.natAbs:Rat)*R.pz p.2 by grind);have:(p.1.natAbs:Rat)<=((2^(j+k):Nat):Rat):=by
    have e2:((2^(j+k):Nat):Rat)*((p.1.natAbs:Rat)*R.pz p.2)=(p.1.natAbs:Rat):=by
     rw[bZV,bYL,e1];grind
    grind
   exact_mod_cast this
  have hp:(0:Int)<((2^k:Nat):Int):=by have:=bQA (n:=k) (show 0<2 by decide);omega
  have bEL:(p.1.natAbs:Int)<=((2^j:Nat):Int)*((2^k:Nat):Int):=by exact_mod_cast hz
  have hc:-((2^j:Nat):Int)<=iU.nN up p.1 k/\iU.nN up p.1 k<=((2^j:Nat):Int):=by
   have fl:∀w:Int,(w.natAbs:Int)<=((2^j:Nat):Int)*((2^k:Nat):Int)->-((2^j:Nat):Int)<=w/((2^k:Nat):Int)/\w/((2^k:Nat):Int)<=((2^j:Nat):Int):=by
    intro w hw;constructor
    ·refine Int.le_ediv_of_mul_le hp ?_;rw[bWR];omega
    ·exact Int.ediv_le_of_le_mul hp (by omega)
   unfold iU.nN;cases up with
   |false=>rw[cond_false];exact fl _ bEL
   |true =>
    rw[cond_true];have:=fl (-p.1) (by rw[bTV];exact bEL);omega
  generalize iU.nN up p.1 k=c at *;have e1:R.pz (p.2+(k:Int))*((2^j:Nat):Rat)=1:=by rw[<-R.dW,show p.2+(k:Int)+(j:Int)=0 by omega,R.fS]
  have pp:=R.dJ (p.2+(k:Int));have c1:-((2^j:Nat):Rat)<=(c:Rat):=by
   have:((-((2^j:Nat):Int):Int):Rat)<=(c:Rat):=by exact_mod_cast hc.1
   rwa [bYC,bXT]at this
  have c2:(c:Rat)<=((2^j:Nat):Rat):=by
   have:(c:Rat)<=(((2^j:Nat):Int):Rat):=by exact_mod_cast hc.2
   rwa [bXT]at this
  have m1:=R.aG (bSJ pp) (show 0<=(c:Rat)+((2^j:Nat):Rat) by grind);have m2:=R.aG (bSJ pp) (show 0<=((2^j:Nat):Rat)-(c:Rat) by grind);rw[R.cT];constructor <;> grind
def On(s:(Int×Int)×(Int×Int)):Prop:=R.ab (R.qz s.1)<=1/\R.ab (R.qz s.2)<=1
theorem On.neg{s:(Int×Int)×(Int×Int)}(h:On s):On (iD.sQ s.2,iD.sQ s.1):=by
 constructor
 ·show R.ab (R.qz (-s.2.1,s.2.2))<=1;rw[mG,R.fW];exact h.2
 ·show R.ab (R.qz (-s.1.1,s.1.2))<=1;rw[mG,R.fW];exact h.1
theorem On.trn{s c:(Int×Int)×(Int×Int)}(hs:On s)(hc:On c):∀n:Nat,On (VTurned.trn s c n).1/\On (VTurned.trn s c n).2:=by
 intro n
 induction n generalizing s c with
 |zero=>exact⟨hs,hc⟩
 |succ n ih=>exact ih hc hs.neg
theorem Nz{s:(Int×Int)×(Int×Int)}{V ρ m:Rat}(h:Bx s V (ρ*R.ab V) m)(r1:ρ<=1/64)(V0:V≠0) :
  63/64*R.ab V<=R.ab (R.qz s.1)/\R.ab (R.qz s.1)<=65/64*R.ab V/\63/64*R.ab V<=R.ab (R.qz s.2)/\R.ab (R.qz s.2)<=65/64*R.ab V/\(0<V->0<R.qz s.1)/\(V<0->R.qz s.2<0)/\0<R.ab V:=by
 obtain⟨_,_,_,_,m0,lo,hi,wd⟩:=h;have a0:0<R.ab V:=by
  unfold R.ab;split <;> grind
 have k:=R.aG (bSJ a0) (show 0<=1/64-ρ by grind);generalize hρ:ρ*R.ab V=W at *
 by_cases c:0<V
 ·have e:R.ab V=V:=R.bG (bSJ c);rw[e]at a0 k hρ;rw[e];rw[R.bG (show 0<=R.qz s.1 by grind),R.bG (show 0<=R.qz s.2 by grind)];refine⟨by grind,by grind,by grind,by grind,fun _=>by grind,fun _=>by grind,c⟩
 ·have e:R.ab V=-V:=by unfold R.ab;rw[if_neg (by grind)]
  rw[e]at a0 k hρ;rw[e];rw[<-R.fW,R.bG (show 0<=-R.qz s.1 by grind),<-R.fW,R.bG (show 0<=-R.qz s.2 by grind)];refine⟨by grind,by grind,by grind,by grind,fun _=>by grind,fun _=>by grind,by grind⟩
theorem Hw{s:(Int×Int)×(Int×Int)}{V W W' m:Rat}(h:Bx s V W m)(hw:W<=W'):Bx s V W' m:=by
 obtain⟨a,b,c,d,e,f,g,i⟩:=h;exact⟨a,b,c,d,e,f,g,bSH i hw⟩
theorem sV{p:Int×Int}(h:0<R.ab (R.qz p)):p.1≠0:=Kt fun hz=>by rw[hz,R.bG bTP]at h;exact Rat.lt_irrefl h
theorem aLX(k:Int)(s c:Rat):R.ab (R.rs k s c)=if k%2=0 then R.ab s else R.ab c:=by
 have h4:k%4=0\/k%4=1\/k%4=2\/k%4=3:=by omega
 unfold R.rs;rcases h4 with h |h |h |h
 ·have h2:k%2=0:=by omega
  simp[h,h2,R.fW]
 ·have h2:k%2=1:=by omega
  simp[h,h2,R.fW]
 ·have h2:k%2=0:=by omega
  simp[h,h2,R.fW]
 ·have h2:k%2=1:=by omega
  simp[h,h2,R.fW]
theorem aDC(k:Int)(s c:Rat):R.ab (R.rc k s c)=if k%2=0 then R.ab c else R.ab s:=by
 have h4:k%4=0\/k%4=1\/k%4=2\/k%4=3:=by omega
 unfold R.rc;rcases h4 with h |h |h |h
 ·have h2:k%2=0:=by omega
  simp[h,h2,R.fW]
 ·have h2:k%2=1:=by omega
  simp[h,h2,R.fW]
 ·have h2:k%2=0:=by omega
  simp[h,h2,R.fW]
 ·have h2:k%2=1:=by omega
  simp[h,h2,R.fW]
end M
namespace W
open Go AI M
namespace xL
def E:=mE [(100,Iw.aH),(101,aRB.aH),(47,Sh.aH)] 31 [28] [] []
def aE:=bd f42
theorem aU:Nk E aE:=nk
theorem start a b d e f g c:aF E f42 aE [D.agg [sc (bool a),ints u64 b,sc (int i64 d)],D.agg [sc (bool e),ints u64 f,sc (int i64 g)],D.s (sc (int i64 c))]=letI B:=bV.mA true (dv (e,f,g)).fst (dv (e,f,g)).snd c;letI F:=bif fN B.fst B.snd then aK B.fst B.snd else((0:Int),(0:Int));letI A:=bV.mA false (dv (a,b,d)).fst (dv (a,b,d)).snd c;letI C:=bif fN A.fst A.snd then aK A.fst A.snd else((0:Int),(0:Int));aQ (aJ (a,b,d)/\1<=c/\c<=70000) (aC (isNeg C.fst) fun h=>aC (M6.dg C.fst.natAbs) fun i=>aC C.snd fun j=>aC (bif fN A.fst A.snd then(0:Int)else(5:Int)) fun k=>aQ (aJ (e,f,g)/\1<=c/\c<=70000) (aC (isNeg F.fst) fun l=>aC (M6.dg F.fst.natAbs) fun m=>aC F.snd fun n=>aC (bif fN B.fst B.snd then(0:Int)else(5:Int)) fun o=>aQ (k=0/\o=0) (some [D.agg [sc (bool h),ints u64 i,sc (int i64 j),sc (bool l),ints u64 m,sc (int i64 n)],D.s (sc (int i64 0))]))):=eJ aU
def sp(x y:dU)(p:Int):Prop×List D:=(aJ x/\aJ y/\(1<=p/\p<=70000)/\wA false (dv x) p=true/\wA true (dv y) p=true,[yM (shD false (dv x) p) (shD true (dv y) p),.s (.sc (.int .i64 0))])
theorem spec:tL E f42 aE hZ hZ (pN .i64) sp:=by
 rintro x y p ⟨h1,h2,hp,i1,i2⟩;have aZH:fN (bV.mA false (dv (x.1,x.2.1,x.2.2)).1 (dv (x.1,x.2.1,x.2.2)).2 p).1 (bV.mA false (dv (x.1,x.2.1,x.2.2)).1 (dv (x.1,x.2.1,x.2.2)).2 p).2=true:=i1;have aZG:fN (bV.mA true (dv (y.1,y.2.1,y.2.2)).1 (dv (y.1,y.2.1,y.2.2)).2 p).1 (bV.mA true (dv (y.1,y.2.1,y.2.2)).1 (dv (y.1,y.2.1,y.2.2)).2 p).2=true:=i2;refine(start x.1 x.2.1 x.2.2 y.1 y.2.1 y.2.2 p).trans ?_;simp only[aL];rw[gP ⟨h1,hp⟩,gP ⟨h2,hp⟩,aZH,aZG,gP ⟨rfl,rfl⟩];rfl
def aH:dC:=orc3 hZ hZ (pN .i64) sp
theorem ok:OK 42 aH:=(eI E aE (aA Iw.ok (aA aRB.ok (aA Sh.ok aD))) func42).Bp rfl spec
end xL
namespace aQJ
def E:=mE [(40,Ik.aH),(42,xL.aH)] 23 [10,20] [] []
def aE:=bd f38
theorem aU:Nk E aE:=nk
theorem start a c d e f g b:aF E f38 aE [D.agg [sc (bool a),ints u64 c,sc (int i64 d),sc (bool e),ints u64 f,sc (int i64 g)],D.s (sc (int i64 b))]=letI C:=int i64 0;letI B:=M.shD true (dv (e,f,g)) b;letI A:=M.shD false (dv (a,c,d)) b;aQ (eB (a,c,d,e,f,g)) (aC (if 1<=b/\b<=70000 then(0:Int)else(1:Int)) fun h=>aB (h !=0) (some [D.agg [sc (bool false),sc (slice none 0 0),sc C,sc (bool false),sc (slice none 0 0),sc C],D.s (sc (int i64 h))]) (aQ (aJ (a,c,d)/\aJ (e,f,g)/\(1<=b/\b<=70000)/\wA false (dv (a,c,d)) b=true/\wA true (dv (e,f,g)) b=true) (aC (isNeg A.fst) fun i=>aC (M6.dg A.fst.natAbs) fun j=>aC A.snd fun k=>aC (isNeg B.fst) fun l=>aC (M6.dg B.fst.natAbs) fun m=>aC B.snd fun n=>some [D.agg [sc (bool i),ints u64 j,sc (int i64 k),sc (bool l),ints u64 m,sc (int i64 n)],D.s (sc C)]))):=eJ aU
def sp(s:rQ)(p:Int):Prop×List D:=(eB s/\(1<=p/\p<=70000)/\wA false (dv (gM s)) p=true/\wA true (dv (gN s)) p=true,[yM (shD false (dv (gM s)) p) (shD true (dv (gN s)) p),.s (.sc (.int .i64 0))])
theorem spec:fO E f38 aE sT (pN .i64) sp:=by
 rintro s p ⟨h1,hp,i1,i2⟩;refine(start s.1 s.2.1 s.2.2.1 s.2.2.2.1 s.2.2.2.2.1 s.2.2.2.2.2 p).trans ?_;rw[gP h1,aL,if_pos hp,gT rfl];exact gP ⟨h1.1,h1.2.1,hp,i1,i2⟩
def aH:dC:=orc2 sT (pN .i64) sp
theorem ok:OK 38 aH:=(eI E aE (aA Ik.ok (aA xL.ok aD)) func38).lP rfl spec
end aQJ
namespace Sd
theorem aPV{b:Int}(hb:0<=b/\b<18446744073709551616)(c0:xI.aQB b≠0)(c3:xI.aQB b≠3)(c4:xI.aQB b≠4):fB.iA 64 b=true/\bP.gW 64 b=true/\aRA (bQ.mD 64 b) (bQ.mF 64 b):=by
 have hp:fB.iA 64 b=true:=rfl;unfold xI.aQB at c0 c3 c4;rw[hp,cond_true]at c0 c3 c4;have e1:cX.lT (aM.gY 64)=4503599627370496:=rfl;have e2:kW.mM (aM.gY 64)=9218868437227405312:=rfl;have e3:dM.dX (aM.gY 64)=9223372036854775808:=rfl;have e4:(aM.gY 64).2.2.1=-1074:=rfl;unfold lO.lH at c0 c3 c4;rw[e1,e2]at c0 c3 c4;have n0:b%9223372036854775808≠0:=fun h=>by rw[h,if_pos rfl]at c0;exact c0 rfl
 have n1:b%9223372036854775808<9218868437227405312:=by
  rw[if_neg n0]at c3 c4
  by_cases h1:b%9223372036854775808<4503599627370496
  ·omega
  ·rw[if_neg h1]at c3 c4
   by_cases h2:b%9223372036854775808<9218868437227405312
   ·exact h2
   ·rw[if_neg h2]at c3 c4
    by_cases h3:b%9223372036854775808=9218868437227405312
    ·rw[if_pos h3]at c3;exact absurd rfl c3
    ·rw[if_neg h3]at c4;exact absurd rfl c4
 refine⟨hp,?_,?_⟩
 ·unfold bP.gW;rw[e2,e3];exact decide_eq_true n1
 ·have hz:(bQ.mD 64 b).natAbs=(iG.Co (aM.gY 64) (b%9223372036854775808)).toNat:=by
   unfold bQ.mD;rw[kD,e3]
  have hm:0<iG.Co (aM.gY 64) (b%9223372036854775808)/\iG.Co (aM.gY 64) (b%9223372036854775808)<9007199254740992:=by
   unfold iG.Co;rw[e1];split <;> omega
  have he:-1074<=bQ.mF 64 b/\bQ.mF 64 b<=971:=by
   unfold bQ.mF iG.Es;rw[e1,e3,e4];split <;> omega
  exact⟨by omega,by omega,he.1,he.2⟩
end Sd
end W
namespace R
open W.TSums
end R
namespace M
open Go AI W
def h7(q:Nat):Nat:=THalvings.hlv q 400 8
def w7(q:Nat):Nat:=q+64+4*h7 q
def u7(y:Int)(q:Nat):Nat:=y.natAbs*2^(64+3*h7 q)
def bDX(y:Int)(q:Nat):Nat×Nat:=R.Cy (2^w7 q) (h7 q) (TSums.Tc (u7 y q) (w7 q)) (TSums.Td (u7 y q) (w7 q))
def aYI(y:Int)(q:Nat):Int:=zs (isNeg y) (bDX y q).1/((2^(w7 q-q):Nat):Int)
def bCV(y:Int)(q:Nat):Int:=((bDX y q).2:Int)/((2^(w7 q-q):Nat):Int)
end M
namespace W
open Go AI M
namespace Mk
def E:=mE [(134,Norm.aH)] 16 [] [] []
def aE:=bd f140
theorem aU:Nk E aE:=nk
theorem start a b:aF E f140 aE [D.s (sc (bool a)),D.s (ints u32 b)]=letI A:=dg (val b);aQ (cB b/\b.length<=4398046511104) (aB a (some [D.agg [sc (bool (decide (0<(A.length:Int)))),ints u32 A]]) (some [D.agg [sc (bool false),ints u32 A]])):=eJ aU
def sp(b:Bool)(m:List Int):Prop×List D:=(cB m/\m.length<=4398046511104,[zD (zs b (val m))])
theorem spec:fO E f140 aE pB (pI .u32) sp:=by
 intro b m h;refine(start b m).trans ((gP h).trans ?_);unfold sp;simp only[aSA];cases b with
 |false=>rfl
 |true =>
  rw[bT];have:decide (0<((dg (val m)).length:Int))=decide (val m≠0):=by
   by_cases h:val m=0
   ·rw[h,bN];rfl
   ·rw[decide_eq_true h,decide_eq_true];have:(dg (val m)).length≠0:=fun hh=>h (fZ.1 hh)
    omega
  rw[this];rfl
def aH:dC:=orc2 pB (pI .u32) sp
theorem ok:OK 140 aH:=(eI E aE (aA Norm.ok aD) func140).lP rfl spec
end Mk
namespace bDF
def E:=mE [(134,Norm.aH),(142,Vg.aH),(228,xR.aH)] 29 [10,16,25] [] []
def aE:=bd f202
theorem aU:Nk E aE:=nk
theorem start a b:aF E f202 aE [D.s (ints u32 a),D.s (sc (int i64 b))]=letI F:=b.tdiv 32;letI C:=(a.length:Int);letI B:=(↑((2:Nat)^min (b.tmod 32).toNat 32):Int);letI A:=List.drop (i64.wrap F).toNat (List.take C.toNat a);aB (decide (b<=0)) (aQ (cB a/\a.length<=4398046511104) (some [D.own 156 u32 (dg (val a))])) (aB (decide (C<=i64.wrap F)) (aQ ((0:Int)<=(0:Int)/\(0:Int)<(18446744073709551616:Int)) (some [D.own 156 u32 (dg 0)])) (if 0<=i64.wrap F/\i64.wrap F<=C/\C<=C then if b.tmod 32<(0:Int)then none else aQ (cB A/\A.length<=1099511627776/\0<u32.wrap ((1:Int)*B)/\u32.wrap ((1:Int)*B)<4294967296) (some [D.own 156 u32 (dg (val A/(u32.wrap ((1:Int)*B)).toNat))])else none)):=eJ aU
def sp(a:List Int)(n:Int):Prop×List D:=(cB a/\a.length<=1099511627776/\n<9223372036854775808,[.own Ji .u32 (dg (val a/2^n.toNat))])
theorem spec:fO E f202 aE (pI .u32) (pN .i64) sp:=by
 rintro a n ⟨ha,h1,h2⟩;refine(start a n).trans ?_;show _=some [D.own Ji .u32 (dg (val a/2^n.toNat))]
 by_cases hn:n<=0
 ·rw[aO hn,gP ⟨ha,by omega⟩,show n.toNat=0 from by omega,Nat.pow_zero,Nat.div_one]
 ·have e1:(n%32).toNat=n.toNat%32:=by omega
  have e2:(n/32).toNat=n.toNat/32:=by omega
  rw[aI hn,aNR (by omega),aNP (by omega),wrap_i64 (n:=n/32)]
  by_cases hz:(a.length:Int)<=n/32
  ·rw[aO hz,gP ⟨by omega,by omega⟩,bSZ];rw[Ck];have h3:val a<4294967296^(n.toNat/32):=bOB (cK ha) (fY);have Xo:0<2^(n.toNat%32):=cI;exact bOB h3 (Nat.le_mul_of_pos_right _ Xo)
  ·have hp:2^(n.toNat%32)<2^32:=bTU (by omega) (by omega);have Xo:0<2^(n.toNat%32):=cI;rw[aI hz,if_pos ⟨by omega,by omega,by omega⟩,aX,aCW (by omega) (by omega),bQX,List.take_length,e1,e2];rw[gP ⟨ha.drop _,by rw[bRA];omega,by generalize 2^(n.toNat%32)=p at *;omega⟩,bQX,jH ha,aAO]
def aH:dC:=orc2 (pI .u32) (pN .i64) sp
theorem ok:OK 202 aH:=(eI E aE (aA Norm.ok (aA Vg.ok (aA xR.ok aD))) func202).lP rfl spec
end bDF
namespace bDD
def E:=mE [(140,Mk.aH),(141,Add.aH),(142,Vg.aH)] 17 [] [] []
def aE:=bd f89
theorem aU:Nk E aE:=nk
theorem start a:aF E f89 aE [D.s (sc (int i64 a))]=letI F:=dg (u64.wrap a).toNat;letI B:=i64.wrap ((0:Int)-i64.wrap (a+1));letI A:=dg (u64.wrap B).toNat;letI C:=dg (val A+val (dg 1));aB (decide (a<0)) (aQ (0<=u64.wrap B/\u64.wrap B<18446744073709551616) (aQ ((0:Int)<=(1:Int)/\(1:Int)<(18446744073709551616:Int)) (aQ (cB A/\cB (dg 1)/\A.length<=1099511627776/\(dg 1).length<=1099511627776) (aQ (cB C/\C.length<=4398046511104) (some [D.agg [sc (bool (isNeg (zs true (val C)))),ints u32 (dg (zs true (val C)).natAbs)]]))))) (aQ (0<=u64.wrap a/\u64.wrap a<18446744073709551616) (aQ (cB F/\F.length<=4398046511104) (some [D.agg [sc (bool (isNeg (zs false (val F)))),ints u32 (dg (zs false (val F)).natAbs)]]))):=eJ aU
def sp(a:Int):Prop×List D:=(-9223372036854775808<=a/\a<9223372036854775808,[zD a])
theorem Xj{n:Nat}(h:n<18446744073709551616):(dg n).length<=2:=cR (by simpa using h)
theorem spec:gO E f89 aE (pN .i64) sp:=by
 rintro a ⟨h1,h2⟩;refine(start a).trans ?_;show _=some [zD a];simp only[bJ]
 by_cases hn:a<0
 ·have e:u64.wrap (i64.wrap (0-i64.wrap (a+1)))=-(a+1):=by
   rw[wrap_i64 (n:=a+1),wrap_i64,wrap_u64];omega
  have l1:=Xj (n:=(-(a+1)).toNat) (by omega);have l2:=Xj (n:=(-(a+1)).toNat+1) (by omega);have l3:=Xj (n:=1) (by omega);rw[aO hn,e,gP ⟨by omega,by omega⟩,gP ⟨by omega,by omega⟩,gP ⟨iP _,iP _,by omega,by omega⟩,gP ⟨iP _,by omega⟩];have ez:zs true ((-(a+1)).toNat+1)=a:=by unfold zs;simp only[cond_true];omega
  rw[ez];rfl
 ·have l1:=Xj (n:=a.toNat) (by omega);rw[aI hn,wrap_u64,gP ⟨by omega,by omega⟩,gP ⟨iP _,by omega⟩];have ez:zs false a.toNat=a:=by unfold zs;simp only[cond_false];omega
  rw[ez];rfl
def aH:dC:=orc1 (pN .i64) sp
theorem ok:OK 89 aH:=(eI E aE (aA Mk.ok (aA Add.ok (aA Vg.ok aD))) func89).nD rfl spec
end bDD
namespace Ol
def bDW(m e:Int):Int:=if 0<=e then m*2^e.toNat else m/((2^(-e).toNat:Nat):Int)
end Ol
namespace aYG
def E:=mE [] 24 [] [(3,[0,1])] [3]
def aE:=bd f227
theorem aU:Nk E aE:=nk
def J3 a b:=lD E f227 aE 3 [wG a,bR b]
theorem start a b:aF E f227 aE [D.s (ints u32 a),D.s (sc (int i64 b))]=letI A:=some [D.s (sc (int i64 0))];aB (decide (b<0)) A (aB (decide ((a.length:Int)<=i64.wrap (b.tdiv 32))) A (aYG.J3 a b)):=eJ aU
theorem gL a b:J3 a b=letI A:=b.tdiv 32;if 0<=i64.wrap A/\i64.wrap A<(a.length:Int)then if b.tmod 32<(0:Int)then none else some [D.s (sc (int i64 (i64.wrap (eY BinOp.and u32 (a.getD (i64.wrap A).toNat 0/(↑((2:Nat)^min (b.tmod 32).toNat 32):Int)) 1))))]else none:=cJ aU
theorem aAV{x:Int}(h:0<=x)(h':x<4294967296):eY .and .u32 x 1=x%2:=by
 obtain⟨n,rfl⟩:=bSE h;rw[sF];unfold bitsI0;simp only;have e:(BitVec.ofInt u32.bits (n:Int) &&& BitVec.ofInt u32.bits 1).toNat=n%2:=by
  show(BitVec.ofInt 32 (n:Int) &&& BitVec.ofInt 32 1).toNat=_;rw[BitVec.toNat_and];have e1:(BitVec.ofInt 32 (n:Int)).toNat=n:=by simp;omega
  have e2:(BitVec.ofInt 32 1).toNat=1:=by decide
  rw[e1,e2,Nat.and_one_is_mod]
 rw[e,wrap_u32];omega
def sp(a:List Int)(i:Int):Prop×List D:=(cB a/\a.length<=1099511627776/\-9223372036854775808<=i/\i<9223372036854775808,[.s (.sc (.int .i64 (if i<0 then 0 else((val a/2^i.toNat%2:Nat):Int))))])
theorem spec:fO E f227 aE (pI .u32) (pN .i64) sp:=by
 rintro a i ⟨ha,hl,h1,h2⟩;refine(start a i).trans ?_;show _=some [D.s (.sc (.int .i64 (if i<0 then 0 else((val a/2^i.toNat%2:Nat):Int))))]
 by_cases hn:i<0
 ·rw[aO hn,if_pos hn]
 ·have t1:i.tdiv 32=i/32:=bUQ (by omega);have t2:i.tmod 32=i%32:=bUR (by omega);have e1:(i/32).toNat=i.toNat/32:=by omega
  have e2:(i%32).toNat=i.toNat%32:=by omega
  rw[aI hn,if_neg hn,t1,wrap_i64 (n:=i/32),Ck i.toNat,<-bST]
  by_cases hz:(a.length:Int)<=i/32
  ·have hv:val a/4294967296^(i.toNat/32)=0:=by
    apply bSZ;exact bOB (cK ha) (fY)
   rw[aO hz,hv,bWV];rfl
  ·have g:=ha.get (i.toNat/32);rw[aI hz,gL,t1,t2,wrap_i64 (n:=i/32),aT,aX,e1,e2,<-jH ha,gF];have em:min (i.toNat%32) 32=i.toNat%32:=by omega
   have iN:i.toNat%32<32:=bPJ _ (by omega);rw[em];generalize i.toNat%32=k at *;generalize a.getD (i.toNat/32) 0=x at *;generalize val (a.drop (i.toNat/32+1))=r at *;have hp:0<2^k:=cI;have e3:(x.toNat+4294967296*r)/2^k%2=x.toNat/2^k%2:=by
    have:4294967296*r=2^k*(2*(2^(31-k)*r)):=by
     rw[show(4294967296:Nat)=2^32 from rfl,show 32=k+(1+(31-k))from by omega,bSD,bSD,bSF,bSF]
    rw[this,Nat.add_mul_div_left _ _ hp];omega
   rw[e3];have ex:x/((2^k:Nat):Int)=((x.toNat/2^k:Nat):Int):=by
    obtain⟨n,rfl⟩:=bSE g.1;rw[<-Int.natCast_ediv];rfl
   have hle:x.toNat/2^k<=x.toNat:=bVO _ _;rw[ex];clear ex e3;generalize x.toNat/2^k=q at *;rw[aAV (by omega) (by omega),wrap_i64];rfl
def aH:dC:=orc2 (pI .u32) (pN .i64) sp
theorem ok:OK 227 aH:=(eI E aE aD func227).lP rfl spec
end aYG
namespace aNF
def bIC(a b:Int):Int:=a/b+(if b<a%b*2\/(a%b*2=b/\a/b%2≠0)then 1 else 0)
end aNF
end W
namespace M
open Go AI W
def t7(m e:Int):Int:=(if(bl m.natAbs:Int)+e>0 then(bl m.natAbs:Int)+e else 0)+4
def x7(m e q:Int):Int:=Ol.bDW m (e+(q+t7 m e))
def bDU(m e q:Int):Bool:=decide (t7 m e=4)&&decide (((x7 m e q).natAbs:Int)*4<=((2^(q+t7 m e).toNat*3:Nat):Int))
def k7(m e q:Int):Int:=bif bDU m e q then 0 else aNF.bIC (x7 m e q*2) (R.pF (q+t7 m e).toNat:Nat)
def y7(m e q:Int):Int:=bif bDU m e q then Ol.bDW m (e+q)else(x7 m e q*2-k7 m e q*(R.pF (q+t7 m e).toNat:Nat))/((2^(t7 m e+1).toNat:Nat):Int)
end M
namespace M
open Go AI W
def bHP(k s c:Int):Int:=if k%4=0 then s else if k%4=1 then c else if k%4=2 then -s else -c
def vS(m e q:Int):Int:=bHP (k7 m e q) (aYI (y7 m e q) q.toNat) (bCV (y7 m e q) q.toNat)
end M
namespace W
open Go AI M
namespace To
def E:=mE [(134,Norm.aH)] 44 [] [(4,[3,4,5])] []
def aE:=bd f179
theorem aU:Nk E aE:=nk
def L4 a (b:Nat) (c:List Int) d:=nU E f179 aE 4 [wG a,yL 1 b 22 c,bR d]
theorem start a:aF E f179 aE [D.s (ints u32 a)]=letI A:=i64.wrap ((↑(dg (val a)).length:Int).tdiv 2)+1;aQ (cB a/\a.length<=4398046511104) (if(0:Int)<=(0:Int)/\0<=i64.wrap A/\i64.wrap A<=8796093022208 then To.L4 (dg (val a)) 0 (bPE 0 (0:Int)) 0 else none):=eJ aU
theorem kV a b c d:L4 a b c d=letI C:=(a.length:Int);letI B:=a.getD d.toNat 0;letI G:=c.length+[u64.wrap B].length;letI A:=u64.wrap B+u64.wrap (u64.wrap (a.getD (i64.wrap (d+1)).toNat 0)*4294967296);letI F:=c.length+[u64.wrap A].length;aB (decide (d<C)) (if 0<=d/\d<C then aB (decide (i64.wrap (d+1)<C)) (if 0<=i64.wrap (d+1)/\i64.wrap (d+1)<C then if(0:Nat)<[u64.wrap A].length/\(F:Int)<=(8796093022208:Int)then To.L4 a F (c ++ [u64.wrap A]) (i64.wrap (d+2))else none else none) (if(0:Nat)<[u64.wrap B].length/\(G:Int)<=(8796093022208:Int)then To.L4 a G (c ++ [u64.wrap B]) (i64.wrap (d+2))else none)else none) (some [D.own 22 u64 c]):=lJ aU
theorem L{d:List Int}(hd:cD d)(hl:d.length<=4398046511104):∀(k i:Nat) (xs:List Int),i+k>=d.length->i<=d.length+1->xs.length<=i ->
  L4 d xs.length xs i=some [D.own fC .u64 (xs ++ M6.dg (val (d.drop i)))]:=by
 intro k
 induction k using Nat.strongRecOn with
 |_ k ih =>
  intro i xs hk hi Sp;rw[kV]
  by_cases h:i<d.length
  ·have g0:=hd.iX.get i;have g1:=hd.iX.get (i+1);have e':((i:Int)).toNat=i:=bQX i;have e1:((i:Int)+1).toNat=i+1:=by omega
   have hz:val (d.drop i)≠0:=by
    intro h0;have hn:cD (d.drop i):=wS (hd.iX.drop i) fun e he=>hd.top (by
     rw[List.getLast?_drop]at he;rw[aX]at he;exact he)
    have:=(cS hn).2 h0;rw[bRA]at this;omega
   have ev:=gF (a:=d) i;have ev1:val (d.drop (i+1))=(d.getD (i+1) 0).toNat+4294967296*val (d.drop (i+2)):=gF (i+1);have key:M6.dg (val (d.drop i))=(d.getD i 0+d.getD (i+1) 0*4294967296) :: M6.dg (val (d.drop (i+2))):=by
    rw[M6.mU hz];congr 1
    ·omega
    ·congr 1;omega
   rw[aO,aT,e',wrap_i64 (n:=(i:Int)+1),wrap_i64 (n:=(i:Int)+2),e1,wrap_u64 (n:=d.getD i 0),wrap_u64 (n:=d.getD (i+1) 0),
    wrap_u64 (n:=d.getD (i+1) 0*4294967296),wrap_u64]
   by_cases h1:i+1<d.length
   ·rw[aO,aT,if_pos ⟨by simp,by simp;omega⟩];have:=ih (k-2) (by omega) (i+2) (xs ++ [d.getD i 0+d.getD (i+1) 0*4294967296]) (by omega) (by omega) (by simp;omega);simp only[bOE,bQL,bQM]at this ⊢;rw[show((i:Int)+2)=((i+2:Nat):Int)from by omega,this,key,bOW];rfl
   ·have aXR:d.getD (i+1) 0=0:=getD_none (by omega);rw[aI,if_pos ⟨by simp,by simp;omega⟩];have:=ih (k-1) (by omega) (i+2) (xs ++ [d.getD i 0]) (by omega) (by omega) (by simp;omega);simp only[bOE,bQL,bQM]at this ⊢;rw[show((i:Int)+2)=((i+2:Nat):Int)from by omega,this,key,aXR,Int.zero_mul,Int.add_zero,bOW];rfl
  ·rw[aI,List.drop_eq_nil_of_le (by omega)];simp[val,M6.bN]
def sp(a:List Int):Prop×List D:=(cB a/\a.length<=1099511627776,[.own fC .u64 (M6.dg (val a))])
theorem spec:gO E f179 aE (pI .u32) sp:=by
 rintro a ⟨ha,h1⟩;refine(start a).trans ?_;have:=oX ha;rw[gP ⟨ha,by omega⟩,bUQ (by omega),wrap_i64 (n:=((dg (val a)).length:Int)/2) (by omega) (by omega),wrap_i64,if_pos ⟨by omega,by omega,by omega⟩];have:=L (aW (val a)) (by omega) (dg (val a)).length 0 [] (by omega) (by omega) (by simp);simp only[bQM,List.drop_zero,bRD,bJ]at this;exact this
def aH:dC:=orc1 (pI .u32) sp
theorem ok:OK 179 aH:=(eI E aE (aA Norm.ok aD) func179).nD rfl spec
end To
end W
namespace M
open Go AI W
def Real(b:Int):Prop:=(0<=b/\b<18446744073709551616)/\xI.aQB b≠0/\xI.aQB b≠3/\xI.aQB b≠4
theorem Real.n{b:Int}(h:Real b):aRA (bQ.mD 64 b) (bQ.mF 64 b):=(Sd.aPV h.1 h.2.1 h.2.2.1 h.2.2.2).2.2
theorem Real.x{b:Int}(h:Real b):aWV (rJ.aRV b):=bCU h.n
theorem Real.q{b:Int}(_h:Real b):R.qz (rJ.aRV b)=R.qz (bQ.mD 64 b,bQ.mF 64 b):=mT _ _
end M
namespace W
open Go AI M
namespace Im
theorem Xg{p:Int×Int}{g:Int}(h:g<=p.2):R.qz p=((p.1*2^(p.2-g).toNat:Int):Rat)*R.pz g:=by
 obtain⟨k,hk⟩:=bSE (show 0<=p.2-g by omega);have e:p.2=g+(k:Int):=by omega
 unfold R.qz;rw[hk,bQX,e,R.dW,bXW];have:(((2:Int)^k:Int):Rat)=((2^k:Nat):Rat):=by norm_cast
 rw[this];grind
end Im
namespace bDC
def E:=mE [(179,To.aH)] 15 [] [] []
def aE:=bd f133
theorem aU:Nk E aE:=nk
theorem start a b:aF E f133 aE [D.agg [sc (bool a),ints u32 b]]=letI A:=cB b/\b.length<=1099511627776;aB a (aQ A (some [D.agg [sc (bool (decide (0<(b.length:Int)))),ints u64 (M6.dg (val b))]])) (aQ A (some [D.agg [sc (bool false),ints u64 (M6.dg (val b))]])):=eJ aU
def sp(x:Bool×List Int):Prop×List D:=(aHB x,[wD (zv x)])
theorem spec:gO E f133 aE aWY sp:=by
 intro x h;have h:aHB x:=h;have l:=h.len;have hz:=cS h.1;refine(start x.1 x.2).trans ?_;obtain⟨b,a⟩:=x
 try dsimp only at *
 show _=some [wD (zs b (val a))];rw[aLS];cases b with
 |false=>rw[bF,gP ⟨h.1.iX,by omega⟩];rfl
 |true =>
  rw[bT,gP ⟨h.1.iX,by omega⟩,bQC];have:decide (0<(a.length:Int))=decide (val a≠0):=by
   by_cases h:val a=0
   ·rw[decide_eq_false (by omega),decide_eq_false (by omega)]
   ·rw[decide_eq_true (by omega),decide_eq_true h]
  rw[this]
def aH:dC:=orc1 aWY sp
theorem ok:OK 133 aH:=(eI E aE (aA To.ok aD) func133).nD rfl spec
end bDC
namespace aHG
def E:=mE [] 26 [] [(4,[0,1,5])] []
def aE:=bd f75
theorem aU:Nk E aE:=nk
def L4 a b c:=nU E f75 aE 4 [gD a,gD b,bR c]
theorem start a b:aF E f75 aE [D.s (ints u64 a),D.s (ints u64 b)]=aB ((a.length:Int) !=(b.length:Int)) (some [D.s (sc (bool false))]) (aHG.L4 a b 0):=eJ aU
theorem kV a b c:L4 a b c=aB (decide (c<(a.length:Int))) (if 0<=c/\c<(a.length:Int)then if 0<=c/\c<(b.length:Int)then aB (a.getD c.toNat 0 !=b.getD c.toNat 0) (some [D.s (sc (bool false))]) (aHG.L4 a b (i64.wrap (c+1)))else none else none) (some [D.s (sc (bool true))]):=lJ aU
theorem L{a b:List Int}(hl:a.length=b.length)(h:a.length<=4398046511104):∀(d i:Nat),i+d=a.length->a.take i=b.take i->L4 a b (i:Int)=some [D.s (.sc (.bool (decide (a=b))))]:=by
 intro d
 induction d with
 |zero =>
  intro i hd hv;rw[bUM (by omega),bUM (by omega)]at hv;rw[kV,aI,decide_eq_true hv]
 |succ d ih =>
  intro i hd hv;rw[kV,aO,aT,aT,bQX];have ga:a.getD i 0=a[i]'(by omega):=by simp[bSG,show i<a.length by omega]
  have gb:b.getD i 0=b[i]'(by omega):=by simp[bSG,show i<b.length by omega]
  by_cases hc:a.getD i 0=b.getD i 0
  ·rw[gT hc,wrap_i64];refine ih (i+1) (by omega) ?_;rw[bTH (by omega),bTH (by omega),hv,<-ga,<-gb,hc]
  ·rw[qF hc,decide_eq_false (fun h=>hc (by rw[h]))]
def sp(a b:List Int):Prop×List D:=(a.length<=4398046511104/\b.length<=4398046511104,[.s (.sc (.bool (decide (a=b))))])
theorem spec:fO E f75 aE (pI .u64) (pI .u64) sp:=by
 rintro a b ⟨h1,h2⟩;refine(start a b).trans ?_
 by_cases hl:a.length=b.length
 ·rw[gT];exact L hl h1 a.length 0 (by omega) rfl
 ·rw[qF];unfold sp;rw[decide_eq_false (fun h=>hl (by rw[h]))]
def aH:dC:=orc2 (pI .u64) (pI .u64) sp
theorem ok:OK 75 aH:=(eI E aE aD func75).lP rfl spec
end aHG
end W
namespace M
open Go AI W
open Classical in
def kx (b:Int):Int:=if h:∃k,R.aWN (R.qz (rJ.aRV b)) k then Classical.choose h else 0
def vx(fn b:Int):Rat:=R.fv fn (R.qz (rJ.aRV b)) (kx b)
theorem aSO:R.qz (0,0)=0:=R.nH rfl
theorem Ym:cO (0,0) (0,0)=0:=by decide
end M
namespace W
open Go AI M
namespace Bj
def E:=mE [(62,Dj.aH)] 9 [] [] []
def aE:=bd f104
theorem aU:Nk E aE:=nk
theorem start a b c d e f:aF E f104 aE [D.agg [sc (bool a),ints u64 b,sc (int i64 c)],D.agg [sc (bool d),ints u64 e,sc (int i64 f)]]=aQ (aJ (a,b,c)/\aJ (d,e,f)) (some [D.s (sc (bool (decide (0<cO (dv (a,b,c)) (dv (d,e,f))))))]):=eJ aU
def sp(x y:dU):Prop×List D:=(aJ x/\aJ y,[.s (.sc (.bool (decide (0<cO (dv x) (dv y)))))])
theorem spec:fO E f104 aE hZ hZ sp:=by
 intro x y h;exact(start x.1 x.2.1 x.2.2 y.1 y.2.1 y.2.2).trans (gP h)
def aH:dC:=orc2 hZ hZ sp
theorem ok:OK 104 aH:=(eI E aE (aA Dj.ok aD) func104).lP rfl spec
end Bj
namespace iT
def E:=mE [(104,Bj.aH)] 25 [] [(3,[1,4,5,12,13,14])] []
def aE:=bd f102
theorem aU:Nk E aE:=nk
def L3 a b c d e (f:Nat) (g:Nat->Bool) (h:Nat->List Int) (j:Nat->Int) k l:=nU E f102 aE 3 [vA (sc (Value.func (Fn.func 104) { toList:=[] } { toList:=[] })),dG 1 29 [cG a,sc (slice none 0 0),cP b],dG 2 29 [cG c,eM d,cP e],(A.v (V.one (L.rows 3 f fun i=>[sc (bool (g i)),ints u64 (h i),sc (int i64 (j i))])),none),bR k,bR l]
theorem start(a:dU)(b:dU):aF E f102 aE [D.rows 3 2 fun i=>[sc (bool (t2 a b i).fst),ints u64 (t2 a b i).snd.fst,sc (int i64 (t2 a b i).snd.snd)],D.s (sc (Value.func (Fn.func (104:FuncId)) #[] #[]))]=letI A:=t2 a b (cAV 0);iT.L3 false 0 A.fst A.snd.fst A.snd.snd 1 (fun i=>(t2 a b (cAV 1+i)).fst) (fun i=>(t2 a b (cAV 1+i)).snd.fst) (fun i=>(t2 a b (cAV 1+i)).snd.snd) 1 0:=eJ aU
theorem pP a b c d e f g h j k l:L3 a b c d e f g h j k l=letI A:=(g l.toNat,h l.toNat,j l.toNat);aB (decide (l<k)) (if 0<=l/\l<(f:Int)then aQ (aJ A/\aJ (c,d,e)) (aB (decide (0<cO (dv A) (dv (c,d,e)))) (iT.L3 a b (g l.toNat) (h l.toNat) (j l.toNat) f (fun i=>g i) (fun i=>h i) (fun i=>j i) k (i64.wrap (l+1))) (iT.L3 a b c d e f (fun i=>g i) (fun i=>h i) (fun i=>j i) k (i64.wrap (l+1))))else none) (some [D.agg [sc (bool c),ints u64 d,sc (int i64 e)]]):=lJ aU
def eE(f:Nat->dU):Nat->dU
 |0=>f 0
 |k+1=>bif decide (0<cO (dv (f (k+1))) (dv (eE f k)))then f (k+1)else eE f k
def qE(a:dU×dU):dU:=eE (t2 a.1 a.2) 1
def sp(a:dU×dU)(u:Unit):Prop×List D:=(aJ a.1/\aJ a.2,[.agg [.sc (.bool (qE a).1),.ints .u64 (qE a).2.1,.sc (.int .i64 (qE a).2.2)]])
theorem kN{f:Nat->dU}{n:Nat}(hf:∀i,i<n->aJ (f i)):∀k,k<n->aJ (eE f k)
 |0,h=>hf 0 h
 |k+1,h=>by
  unfold eE;cases decide (0<cO (dv (f (k+1))) (dv (eE f k)))
  ·exact kN hf k (by omega)
  ·exact hf (k+1) h
theorem L(b0:Bool)(x1:Int)(n:Nat)(f:Nat->dU)(hn:n<1000)(hf:∀i,i<n+1->aJ (f i)):∀d k:Nat,k+d=n->L3 b0 x1 (eE f k).1 (eE f k).2.1 (eE f k).2.2 n (fun i=>(f (1+i)).1) (fun i=>(f (1+i)).2.1) (fun i=>(f (1+i)).2.2) (n:Int) (k:Int)=some [.agg [.sc (.bool (eE f n).1),.ints .u64 (eE f n).2.1,.sc (.int .i64 (eE f n).2.2)]]
 |0,k,h=>by
  obtain rfl:k=n:=by omega
  rw[pP,aI]
 |d+1,k,h=>by
  have e:i64.wrap ((k:Int)+1)=((k+1:Nat):Int):=by rw[wrap_i64];omega
  have r:=L b0 x1 n f hn hf d (k+1) (by omega);have g1:aJ (f (1+k)):=hf _ (by omega);have g2:aJ (eE f k):=kN hf k (by omega);have c1:f (k+1)=f (1+k):=by rw[bTD]
  rw[pP,aO,aT,bQX,gP ⟨g1,g2⟩,e]
  by_cases hc:0<cO (dv (f (k+1))) (dv (eE f k))
  ·have hb:eE f (k+1)=f (1+k):=by
    rw[<-c1];show(bif decide (0<cO (dv (f (k+1))) (dv (eE f k)))then f (k+1)else eE f k)=_;rw[decide_eq_true hc];rfl
   rw[c1]at hc;rw[aO hc];rw[hb]at r;exact r
  ·have hb:eE f (k+1)=eE f k:=by
    show(bif decide (0<cO (dv (f (k+1))) (dv (eE f k)))then f (k+1)else eE f k)=_;rw[decide_eq_false hc];rfl
   rw[c1]at hc;rw[aI hc];rw[hb]at r;exact r
theorem all{a:dU×dU}(h:aJ a.1/\aJ a.2):∀i,i<2->aJ (t2 a.1 a.2 i):=fun i hi=>by
  obtain rfl |rfl:i=0\/i=1:=by omega
  ·exact h.1
  ·exact h.2
theorem zJ{a:dU×dU}(h:aJ a.1/\aJ a.2):aJ (qE a):=kN (n:=2) (all h) 1 (by decide)
theorem Ux(a:dU×dU):dv (qE a)=Bs (dv a.1) (dv a.2):=by
 show dv (bif decide (0<cO (dv a.2) (dv a.1))then a.2 else a.1)=bif decide (0<cO (dv a.2) (dv a.1))then dv a.2 else dv a.1
 cases decide (0<cO (dv a.2) (dv a.1)) <;> rfl
theorem spec:fO E f102 aE (aBD (.pair sB (.pair (sI .u64) (sN .i64))) (false,[],0)) (pFn 104) sp:=fun a u h =>
 (start a.1 a.2).trans (L false 0 1 (t2 a.1 a.2) (by decide) (all h) 1 0 (by decide))
def aH:dC:=orc2 (aBD (.pair sB (.pair (sI .u64) (sN .i64))) (false,[],0)) (pFn 104) sp
theorem ok:OK 102 aH:=(eI E aE (aA Bj.ok aD) func102).lP rfl spec
end iT
namespace Vk
def E:=mE [(102,iT.aH)] 5 [] [] []
def aE:=bd f44
theorem aU:Nk E aE:=nk
theorem start(a:dU)(b:dU):aF E f44 aE [D.rows 3 2 fun i=>[sc (bool (t2 a b i).fst),ints u64 (t2 a b i).snd.fst,sc (int i64 (t2 a b i).snd.snd)]]=letI C:=t2 a b 1;letI B:=t2 a b 0;letI F:=(B.fst,B.snd.fst,B.snd.snd);letI A:=iT.qE (F,C.fst,C.snd.fst,C.snd.snd);aQ (aJ F/\aJ (C.fst,C.snd.fst,C.snd.snd)) (some [D.agg [sc (bool A.fst),ints u64 A.snd.fst,sc (int i64 A.snd.snd)]]):=eJ aU
def sp(a:dU×dU):Prop×List D:=(aJ a.1/\aJ a.2,[.agg [.sc (.bool (iT.qE a).1),.ints .u64 (iT.qE a).2.1,.sc (.int .i64 (iT.qE a).2.2)]])
theorem spec:gO E f44 aE (aBD (.pair sB (.pair (sI .u64) (sN .i64))) (false,[],0)) sp:=fun a h =>
 (start a.1 a.2).trans (gP h)
def aH:dC:=orc1 (aBD (.pair sB (.pair (sI .u64) (sN .i64))) (false,[],0)) sp
theorem ok:OK 44 aH:=(eI E aE (aA iT.ok aD) func44).nD rfl spec
end Vk
namespace Bi
def E:=mE [(62,Dj.aH)] 9 [] [] []
def aE:=bd f103
theorem aU:Nk E aE:=nk
theorem start a b c d e f:aF E f103 aE [D.agg [sc (bool a),ints u64 b,sc (int i64 c)],D.agg [sc (bool d),ints u64 e,sc (int i64 f)]]=aQ (aJ (a,b,c)/\aJ (d,e,f)) (some [D.s (sc (bool (decide (cO (dv (a,b,c)) (dv (d,e,f))<0))))]):=eJ aU
def sp(x y:dU):Prop×List D:=(aJ x/\aJ y,[.s (.sc (.bool (decide (cO (dv x) (dv y)<0))))])
theorem spec:fO E f103 aE hZ hZ sp:=by
 intro x y h;exact(start x.1 x.2.1 x.2.2 y.1 y.2.1 y.2.2).trans (gP h)
def aH:dC:=orc2 hZ hZ sp
theorem ok:OK 103 aH:=(eI E aE (aA Dj.ok aD) func103).lP rfl spec
end Bi
namespace iR
def E:=mE [(103,Bi.aH)] 25 [] [(3,[1,4,5,12,13,14])] []
def aE:=bd f102
theorem aU:Nk E aE:=nk
def L3 a b c d e (f:Nat) (g:Nat->Bool) (h:Nat->List Int) (j:Nat->Int) k l:=nU E f102 aE 3 [vA (sc (Value.func (Fn.func 103) { toList:=[] } { toList:=[] })),dG 1 29 [cG a,sc (slice none 0 0),cP b],dG 2 29 [cG c,eM d,cP e],(A.v (V.one (L.rows 3 f fun i=>[sc (bool (g i)),ints u64 (h i),sc (int i64 (j i))])),none),bR k,bR l]
theorem start(a:dU)(b:dU):aF E f102 aE [D.rows 3 2 fun i=>[sc (bool (t2 a b i).fst),ints u64 (t2 a b i).snd.fst,sc (int i64 (t2 a b i).snd.snd)],D.s (sc (Value.func (Fn.func (103:FuncId)) #[] #[]))]=letI A:=t2 a b (cAV 0);iR.L3 false 0 A.fst A.snd.fst A.snd.snd 1 (fun i=>(t2 a b (cAV 1+i)).fst) (fun i=>(t2 a b (cAV 1+i)).snd.fst) (fun i=>(t2 a b (cAV 1+i)).snd.snd) 1 0:=eJ aU
theorem pP a b c d e f g h j k l:L3 a b c d e f g h j k l=letI A:=(g l.toNat,h l.toNat,j l.toNat);aB (decide (l<k)) (if 0<=l/\l<(f:Int)then aQ (aJ A/\aJ (c,d,e)) (aB (decide (cO (dv A) (dv (c,d,e))<0)) (iR.L3 a b (g l.toNat) (h l.toNat) (j l.toNat) f (fun i=>g i) (fun i=>h i) (fun i=>j i) k (i64.wrap (l+1))) (iR.L3 a b c d e f (fun i=>g i) (fun i=>h i) (fun i=>j i) k (i64.wrap (l+1))))else none) (some [D.agg [sc (bool c),ints u64 d,sc (int i64 e)]]):=lJ aU
def eE(f:Nat->dU):Nat->dU
 |0=>f 0
 |k+1=>bif decide (cO (dv (f (k+1))) (dv (eE f k))<0)then f (k+1)else eE f k
def qE(a:dU×dU):dU:=eE (t2 a.1 a.2) 1
def sp(a:dU×dU)(u:Unit):Prop×List D:=(aJ a.1/\aJ a.2,[.agg [.sc (.bool (qE a).1),.ints .u64 (qE a).2.1,.sc (.int .i64 (qE a).2.2)]])
theorem kN{f:Nat->dU}{n:Nat}(hf:∀i,i<n->aJ (f i)):∀k,k<n->aJ (eE f k)
 |0,h=>hf 0 h
 |k+1,h=>by
  unfold eE;cases decide (cO (dv (f (k+1))) (dv (eE f k))<0)
  ·exact kN hf k (by omega)
  ·exact hf (k+1) h
theorem L(b0:Bool)(x1:Int)(n:Nat)(f:Nat->dU)(hn:n<1000)(hf:∀i,i<n+1->aJ (f i)):∀d k:Nat,k+d=n->L3 b0 x1 (eE f k).1 (eE f k).2.1 (eE f k).2.2 n (fun i=>(f (1+i)).1) (fun i=>(f (1+i)).2.1) (fun i=>(f (1+i)).2.2) (n:Int) (k:Int)=some [.agg [.sc (.bool (eE f n).1),.ints .u64 (eE f n).2.1,.sc (.int .i64 (eE f n).2.2)]]
 |0,k,h=>by
  obtain rfl:k=n:=by omega
  rw[pP,aI]
 |d+1,k,h=>by
  have e:i64.wrap ((k:Int)+1)=((k+1:Nat):Int):=by rw[wrap_i64];omega
  have r:=L b0 x1 n f hn hf d (k+1) (by omega);have g1:aJ (f (1+k)):=hf _ (by omega);have g2:aJ (eE f k):=kN hf k (by omega);have c1:f (k+1)=f (1+k):=by rw[bTD]
  rw[pP,aO,aT,bQX,gP ⟨g1,g2⟩,e]
  by_cases hc:cO (dv (f (k+1))) (dv (eE f k))<0
  ·have hb:eE f (k+1)=f (1+k):=by
    rw[<-c1];show(bif decide (cO (dv (f (k+1))) (dv (eE f k))<0)then f (k+1)else eE f k)=_;rw[decide_eq_true hc];rfl
   rw[c1]at hc;rw[aO hc];rw[hb]at r;exact r
  ·have hb:eE f (k+1)=eE f k:=by
    show(bif decide (cO (dv (f (k+1))) (dv (eE f k))<0)then f (k+1)else eE f k)=_;rw[decide_eq_false hc];rfl
   rw[c1]at hc;rw[aI hc];rw[hb]at r;exact r
theorem all{a:dU×dU}(h:aJ a.1/\aJ a.2):∀i,i<2->aJ (t2 a.1 a.2 i):=fun i hi=>by
  obtain rfl |rfl:i=0\/i=1:=by omega
  ·exact h.1
  ·exact h.2
theorem zJ{a:dU×dU}(h:aJ a.1/\aJ a.2):aJ (qE a):=kN (n:=2) (all h) 1 (by decide)
theorem Ux(a:dU×dU):dv (qE a)=Bq (dv a.1) (dv a.2):=by
 show dv (bif decide (cO (dv a.2) (dv a.1)<0)then a.2 else a.1)=bif decide (cO (dv a.2) (dv a.1)<0)then dv a.2 else dv a.1
 cases decide (cO (dv a.2) (dv a.1)<0) <;> rfl
theorem spec:fO E f102 aE (aBD (.pair sB (.pair (sI .u64) (sN .i64))) (false,[],0)) (pFn 103) sp:=fun a u h =>
 (start a.1 a.2).trans (L false 0 1 (t2 a.1 a.2) (by decide) (all h) 1 0 (by decide))
def aH:dC:=orc2 (aBD (.pair sB (.pair (sI .u64) (sN .i64))) (false,[],0)) (pFn 103) sp
theorem ok:OK 102 aH:=(eI E aE (aA Bi.ok aD) func102).lP rfl spec
end iR
namespace Vj
def E:=mE [(102,iR.aH)] 5 [] [] []
def aE:=bd f43
theorem aU:Nk E aE:=nk
theorem start(a:dU)(b:dU):aF E f43 aE [D.rows 3 2 fun i=>[sc (bool (t2 a b i).fst),ints u64 (t2 a b i).snd.fst,sc (int i64 (t2 a b i).snd.snd)]]=letI C:=t2 a b 1;letI B:=t2 a b 0;letI F:=(B.fst,B.snd.fst,B.snd.snd);letI A:=iR.qE (F,C.fst,C.snd.fst,C.snd.snd);aQ (aJ F/\aJ (C.fst,C.snd.fst,C.snd.snd)) (some [D.agg [sc (bool A.fst),ints u64 A.snd.fst,sc (int i64 A.snd.snd)]]):=eJ aU
def sp(a:dU×dU):Prop×List D:=(aJ a.1/\aJ a.2,[.agg [.sc (.bool (iR.qE a).1),.ints .u64 (iR.qE a).2.1,.sc (.int .i64 (iR.qE a).2.2)]])
theorem spec:gO E f43 aE (aBD (.pair sB (.pair (sI .u64) (sN .i64))) (false,[],0)) sp:=fun a h =>
 (start a.1 a.2).trans (gP h)
def aH:dC:=orc1 (aBD (.pair sB (.pair (sI .u64) (sN .i64))) (false,[],0)) sp
theorem ok:OK 43 aH:=(eI E aE (aA iR.ok aD) func43).nD rfl spec
end Vj
namespace Bh
def E:=mE [(45,sK.aH),(44,Vk.aH),(43,Vj.aH),(62,Dj.aH),(105,Ih.aH)] 39 [] [(3,[2,3,4])] [3]
def aE:=bd f48
theorem aU:Nk E aE:=nk
def J3 a b c d e f g h i j k l m n o p:=lD E f48 aE 3 [dG 0 31 [cG a,eM b,cP c,cG d,eM e,cP f],dG 1 31 [cG g,eM h,cP i,cG j,eM k,cP l],dG 2 31 [cG m,sc (slice none 0 0),cP n,cG o,sc (slice none 0 0),cP p]]
theorem start a b c d e f g h i j k l:aF E f48 aE [D.agg [sc (bool a),ints u64 b,sc (int i64 c),sc (bool d),ints u64 e,sc (int i64 f)],D.agg [sc (bool g),ints u64 h,sc (int i64 i),sc (bool j),ints u64 k,sc (int i64 l)]]=aQ (eB (a,b,c,d,e,f)) (aQ (eB (g,h,i,j,k,l)) (Bh.J3 a b c d e f g h i j k l false 0 false 0)):=eJ aU
theorem gL a b c d e f g h i j k l m n o p:J3 a b c d e f g h i j k l m n o p=letI F:=bool false;letI C:=int i64 0;letI B:=iR.qE ((d,e,f),j,k,l);letI A:=iT.qE ((a,b,c),g,h,i);aQ (aJ (a,b,c)/\aJ (g,h,i)) (aC A.fst fun q=>aC A.snd.fst fun r=>aC A.snd.snd fun s=>aQ (aJ (d,e,f)/\aJ (j,k,l)) (aC B.fst fun t=>aC B.snd.fst fun u=>aC B.snd.snd fun v=>aQ (aJ (q,r,s)/\aJ (t,u,v)) (aC (cO (dv (q,r,s)) (dv (t,u,v))) fun w=>aB (decide (0<w)) (some [D.agg [sc F,sc (slice none 0 0),sc C,sc F,sc (slice none 0 0),sc C],D.s (sc F),D.s (sc C)]) (aQ (r.length<=1099511627776/\u.length<=1099511627776) (some [D.agg [sc (bool q),ints u64 r,sc (int i64 s),sc (bool t),ints u64 u,sc (int i64 v)],D.s (sc (bool true)),D.s (sc C)]))))):=cJ aU
def meet(s t:rQ):Bool:=!decide (0<cO (Bs (dv (gM s)) (dv (gM t))) (Bq (dv (gN s)) (dv (gN t))))
def aIE(s t:rQ):dU:=iT.qE (gM s,gM t)
def aIF(s t:rQ):dU:=iR.qE (gN s,gN t)
def sp(s t:rQ):Prop×List D:=(eB s/\eB t,[.agg [.sc (.bool (bif meet s t then(aIE s t).1 else false)),.ints .u64 (bif meet s t then(aIE s t).2.1 else []),.sc (.int .i64 (bif meet s t then(aIE s t).2.2 else 0)),.sc (.bool (bif meet s t then(aIF s t).1 else false)),.ints .u64 (bif meet s t then(aIF s t).2.1 else []),.sc (.int .i64 (bif meet s t then(aIF s t).2.2 else 0))],.s (.sc (.bool (meet s t))),.s (.sc (.int .i64 0))])
theorem spec:Eu E f48 aE sT sT sp:=by
 rintro s t ⟨h1,h2⟩;have e:=start s.1 s.2.1 s.2.2.1 s.2.2.2.1 s.2.2.2.2.1 s.2.2.2.2.2 t.1 t.2.1 t.2.2.1 t.2.2.2.1 t.2.2.2.2.1 t.2.2.2.2.2;have g1:aJ (aIE s t):=iT.zJ ⟨h1.1,h2.1⟩;have g2:aJ (aIF s t):=iR.zJ ⟨h1.2.1,h2.2.1⟩;have l1:=g1.len;have l2:=g2.len;have v1:dv (aIE s t)=Bs (dv (gM s)) (dv (gM t)):=iT.Ux (gM s,gM t);have v2:dv (aIF s t)=Bq (dv (gN s)) (dv (gN t)):=iR.Ux (gN s,gN t);have x1:iT.qE ((s.1,s.2.1,s.2.2.1),t.1,t.2.1,t.2.2.1)=aIE s t:=rfl;have x2:iR.qE ((s.2.2.2.1,s.2.2.2.2.1,s.2.2.2.2.2),t.2.2.2.1,t.2.2.2.2.1,t.2.2.2.2.2)=aIF s t:=rfl;have y1:((aIE s t).1,(aIE s t).2.1,(aIE s t).2.2)=aIE s t:=rfl;have y2:((aIF s t).1,(aIF s t).2.1,(aIF s t).2.2)=aIF s t:=rfl;rw[gP h1,gP h2,gL,gP ⟨h1.1,h2.1⟩]at e;simp only[aL,x1,x2,y1,y2,v1,v2]at e;rw[gP ⟨h1.2.1,h2.2.1⟩,gP ⟨g1,g2⟩]at e;unfold sp
 by_cases c:0<cO (Bs (dv (gM s)) (dv (gM t))) (Bq (dv (gN s)) (dv (gN t)))
 ·have hm:meet s t=false:=by unfold meet;rw[decide_eq_true c];rfl
  rw[aO c]at e;refine⟨_,e,?_⟩;dsimp only;rw[hm];exact .cons (vZ.agg (.cons (yQ.refl _) (.cons (yQ.nil _) (.cons (yQ.refl _) (.cons (yQ.refl _) (.cons (yQ.nil _) (uK.refl _))))))) (fX.refl _)
 ·have hm:meet s t=true:=by unfold meet;rw[decide_eq_false c];rfl
  rw[aI c,gP ⟨by omega,by omega⟩]at e;refine⟨_,e,?_⟩;dsimp only;rw[hm];exact fX.refl _
def aH:dC:=orc2 sT sT sp
theorem ok:OK 48 aH:=(eI E aE (aA sK.ok (aA Vk.ok (aA Vj.ok (aA Dj.ok (aA Ih.ok aD))))) func48).aBB rfl spec
end Bh
end W
namespace M
open Go AI W
theorem aJP{s t:rQ}{V:Rat}(h1:R.qz (dv (gM s))<=V/\V<=R.qz (dv (gN s)))(h2:R.qz (dv (gM t))<=V/\V<=R.qz (dv (gN t))):Bh.meet s t=true:=by
 unfold Bh.meet;rw[decide_eq_false,bYZ];rw[tA];have a:R.qz (Bs (dv (gM s)) (dv (gM t)))<=V:=by rcases aFD (dv (gM s)) (dv (gM t))with h |h <;> rw[h] <;> grind
 have b:V<=R.qz (Bq (dv (gN s)) (dv (gN t))):=by rcases aDT (dv (gN s)) (dv (gN t))with h |h <;> rw[h] <;> grind
 grind
end M
namespace M
open Go AI W
theorem Ww(up:Bool){x y:Int×Int}{p:Int}(hp:1<=p/\p<=70000)(hx:Ev x)(hy:Ev y):fN (bI.nW up p x y).1 (bI.nW up p x y).2=true/\jG (aK (bI.nW up p x y).1 (bI.nW up p x y).2)/\bl (aK (bI.nW up p x y).1 (bI.nW up p x y).2).1.natAbs<=100000:=by
 obtain⟨h1,h2⟩:=aDG up (x:=x) (y:=y) hp hx.1 hy.1 hx.2 hy.2;refine⟨h1,⟨by omega,?_,fun h=>uT h,fun h=>Al h⟩,by omega⟩;unfold fN at h1;unfold aK;split
 ·dsimp only;omega
 ·rename_i Br;rw[decide_eq_false Br,bPC,bNH]at h1;exact⟨of_decide_eq_true h1.1,of_decide_eq_true h1.2⟩
end M
namespace M
open Go AI W
theorem Ag(a b:Int×Int):R.qz (dP.fD a b)=R.qz a*R.qz b:=by
 unfold dP.fD;rw[mT,bXW,R.mH];unfold R.qz;grind
end M
namespace M
open Go AI W
structure aYE(x:Int×Int)(n:Nat)(E:Int)(B:Rat):Prop where
 uS:jG x
 bl:bl x.1.natAbs<=n
 e:E<=x.2
 b:R.ab (R.qz x)<=B
end M
namespace W
open Go AI M
namespace iQ
def E:=mE [(103,Bi.aH)] 25 [] [(3,[1,4,5,12,13,14])] []
def aE:=bd f102
theorem aU:Nk E aE:=nk
def L3 a b c d e (f:Nat) (g:Nat->Bool) (h:Nat->List Int) (j:Nat->Int) k l:=nU E f102 aE 3 [vA (sc (Value.func (Fn.func 103) { toList:=[] } { toList:=[] })),dG 1 29 [cG a,sc (slice none 0 0),cP b],dG 2 29 [cG c,eM d,cP e],(A.v (V.one (L.rows 3 f fun i=>[sc (bool (g i)),ints u64 (h i),sc (int i64 (j i))])),none),bR k,bR l]
theorem start(a:dU)(b:dU)(c:dU)(d:dU):aF E f102 aE [D.rows 3 4 fun i=>[sc (bool (t4 a b c d i).fst),ints u64 (t4 a b c d i).snd.fst,sc (int i64 (t4 a b c d i).snd.snd)],D.s (sc (Value.func (Fn.func (103:FuncId)) #[] #[]))]=letI A:=t4 a b c d (cAV 0);iQ.L3 false 0 A.fst A.snd.fst A.snd.snd 3 (fun i=>(t4 a b c d (cAV 1+i)).fst) (fun i=>(t4 a b c d (cAV 1+i)).snd.fst) (fun i=>(t4 a b c d (cAV 1+i)).snd.snd) 3 0:=eJ aU
theorem pP a b c d e f g h j k l:L3 a b c d e f g h j k l=letI A:=(g l.toNat,h l.toNat,j l.toNat);aB (decide (l<k)) (if 0<=l/\l<(f:Int)then aQ (aJ A/\aJ (c,d,e)) (aB (decide (cO (dv A) (dv (c,d,e))<0)) (iQ.L3 a b (g l.toNat) (h l.toNat) (j l.toNat) f (fun i=>g i) (fun i=>h i) (fun i=>j i) k (i64.wrap (l+1))) (iQ.L3 a b c d e f (fun i=>g i) (fun i=>h i) (fun i=>j i) k (i64.wrap (l+1))))else none) (some [D.agg [sc (bool c),ints u64 d,sc (int i64 e)]]):=lJ aU
def eE(f:Nat->dU):Nat->dU
 |0=>f 0
 |k+1=>bif decide (cO (dv (f (k+1))) (dv (eE f k))<0)then f (k+1)else eE f k
def qE(a:dU×dU×dU×dU):dU:=eE (t4 a.1 a.2.1 a.2.2.1 a.2.2.2) 3
def sp(a:dU×dU×dU×dU)(u:Unit):Prop×List D:=(aJ a.1/\aJ a.2.1/\aJ a.2.2.1/\aJ a.2.2.2,[.agg [.sc (.bool (qE a).1),.ints .u64 (qE a).2.1,.sc (.int .i64 (qE a).2.2)]])
theorem kN{f:Nat->dU}{n:Nat}(hf:∀i,i<n->aJ (f i)):∀k,k<n->aJ (eE f k)
 |0,h=>hf 0 h
 |k+1,h=>by
  unfold eE;cases decide (cO (dv (f (k+1))) (dv (eE f k))<0)
  ·exact kN hf k (by omega)
  ·exact hf (k+1) h
theorem L(b0:Bool)(x1:Int)(n:Nat)(f:Nat->dU)(hn:n<1000)(hf:∀i,i<n+1->aJ (f i)):∀d k:Nat,k+d=n->L3 b0 x1 (eE f k).1 (eE f k).2.1 (eE f k).2.2 n (fun i=>(f (1+i)).1) (fun i=>(f (1+i)).2.1) (fun i=>(f (1+i)).2.2) (n:Int) (k:Int)=some [.agg [.sc (.bool (eE f n).1),.ints .u64 (eE f n).2.1,.sc (.int .i64 (eE f n).2.2)]]
 |0,k,h=>by
  obtain rfl:k=n:=by omega
  rw[pP,aI]
 |d+1,k,h=>by
  have e:i64.wrap ((k:Int)+1)=((k+1:Nat):Int):=by rw[wrap_i64];omega
  have r:=L b0 x1 n f hn hf d (k+1) (by omega);have g1:aJ (f (1+k)):=hf _ (by omega);have g2:aJ (eE f k):=kN hf k (by omega);have c1:f (k+1)=f (1+k):=by rw[bTD]
  rw[pP,aO,aT,bQX,gP ⟨g1,g2⟩,e]
  by_cases hc:cO (dv (f (k+1))) (dv (eE f k))<0
  ·have hb:eE f (k+1)=f (1+k):=by
    rw[<-c1];show(bif decide (cO (dv (f (k+1))) (dv (eE f k))<0)then f (k+1)else eE f k)=_;rw[decide_eq_true hc];rfl
   rw[c1]at hc;rw[aO hc];rw[hb]at r;exact r
  ·have hb:eE f (k+1)=eE f k:=by
    show(bif decide (cO (dv (f (k+1))) (dv (eE f k))<0)then f (k+1)else eE f k)=_;rw[decide_eq_false hc];rfl
   rw[c1]at hc;rw[aI hc];rw[hb]at r;exact r
theorem all{a:dU×dU×dU×dU}(h:aJ a.1/\aJ a.2.1/\aJ a.2.2.1/\aJ a.2.2.2):∀i,i<4->aJ (t4 a.1 a.2.1 a.2.2.1 a.2.2.2 i):=fun i hi=>by
  obtain rfl |rfl |rfl |rfl:i=0\/i=1\/i=2\/i=3:=by omega
  ·exact h.1
  ·exact h.2.1
  ·exact h.2.2.1
  ·exact h.2.2.2
theorem zJ{a:dU×dU×dU×dU}(h:aJ a.1/\aJ a.2.1/\aJ a.2.2.1/\aJ a.2.2.2):aJ (qE a):=kN (n:=4) (all h) 3 (by decide)
theorem spec:fO E f102 aE (aMB (.pair sB (.pair (sI .u64) (sN .i64))) (false,[],0)) (pFn 103) sp:=fun a u h =>
 (start a.1 a.2.1 a.2.2.1 a.2.2.2).trans (L false 0 3 (t4 a.1 a.2.1 a.2.2.1 a.2.2.2) (by decide) (all h) 3 0 (by decide))
def aH:dC:=orc2 (aMB (.pair sB (.pair (sI .u64) (sN .i64))) (false,[],0)) (pFn 103) sp
theorem ok:OK 102 aH:=(eI E aE (aA Bi.ok aD) func102).lP rfl spec
end iQ
namespace Om
def E:=mE [(102,iQ.aH)] 5 [] [] []
def aE:=bd f43
theorem aU:Nk E aE:=nk
theorem start(a:dU)(b:dU)(c:dU)(d:dU):aF E f43 aE [D.rows 3 4 fun i=>[sc (bool (t4 a b c d i).fst),ints u64 (t4 a b c d i).snd.fst,sc (int i64 (t4 a b c d i).snd.snd)]]=letI G:=t4 a b c d 3;letI F:=t4 a b c d 2;letI K:=(F.fst,F.snd.fst,F.snd.snd);letI C:=t4 a b c d 1;letI I:=(C.fst,C.snd.fst,C.snd.snd);letI B:=t4 a b c d 0;letI H:=(B.fst,B.snd.fst,B.snd.snd);letI A:=iQ.qE (H,I,K,G.fst,G.snd.fst,G.snd.snd);aQ (aJ H/\aJ I/\aJ K/\aJ (G.fst,G.snd.fst,G.snd.snd)) (some [D.agg [sc (bool A.fst),ints u64 A.snd.fst,sc (int i64 A.snd.snd)]]):=eJ aU
def sp(a:dU×dU×dU×dU):Prop×List D:=(aJ a.1/\aJ a.2.1/\aJ a.2.2.1/\aJ a.2.2.2,[.agg [.sc (.bool (iQ.qE a).1),.ints .u64 (iQ.qE a).2.1,.sc (.int .i64 (iQ.qE a).2.2)]])
theorem spec:gO E f43 aE (aMB (.pair sB (.pair (sI .u64) (sN .i64))) (false,[],0)) sp:=fun a h =>
 (start a.1 a.2.1 a.2.2.1 a.2.2.2).trans (gP h)
def aH:dC:=orc1 (aMB (.pair sB (.pair (sI .u64) (sN .i64))) (false,[],0)) sp
theorem ok:OK 43 aH:=(eI E aE (aA iQ.ok aD) func43).nD rfl spec
end Om
namespace iS
def E:=mE [(104,Bj.aH)] 25 [] [(3,[1,4,5,12,13,14])] []
def aE:=bd f102
theorem aU:Nk E aE:=nk
def L3 a b c d e (f:Nat) (g:Nat->Bool) (h:Nat->List Int) (j:Nat->Int) k l:=nU E f102 aE 3 [vA (sc (Value.func (Fn.func 104) { toList:=[] } { toList:=[] })),dG 1 29 [cG a,sc (slice none 0 0),cP b],dG 2 29 [cG c,eM d,cP e],(A.v (V.one (L.rows 3 f fun i=>[sc (bool (g i)),ints u64 (h i),sc (int i64 (j i))])),none),bR k,bR l]
theorem start(a:dU)(b:dU)(c:dU)(d:dU):aF E f102 aE [D.rows 3 4 fun i=>[sc (bool (t4 a b c d i).fst),ints u64 (t4 a b c d i).snd.fst,sc (int i64 (t4 a b c d i).snd.snd)],D.s (sc (Value.func (Fn.func (104:FuncId)) #[] #[]))]=letI A:=t4 a b c d (cAV 0);iS.L3 false 0 A.fst A.snd.fst A.snd.snd 3 (fun i=>(t4 a b c d (cAV 1+i)).fst) (fun i=>(t4 a b c d (cAV 1+i)).snd.fst) (fun i=>(t4 a b c d (cAV 1+i)).snd.snd) 3 0:=eJ aU
theorem pP a b c d e f g h j k l:L3 a b c d e f g h j k l=letI A:=(g l.toNat,h l.toNat,j l.toNat);aB (decide (l<k)) (if 0<=l/\l<(f:Int)then aQ (aJ A/\aJ (c,d,e)) (aB (decide (0<cO (dv A) (dv (c,d,e)))) (iS.L3 a b (g l.toNat) (h l.toNat) (j l.toNat) f (fun i=>g i) (fun i=>h i) (fun i=>j i) k (i64.wrap (l+1))) (iS.L3 a b c d e f (fun i=>g i) (fun i=>h i) (fun i=>j i) k (i64.wrap (l+1))))else none) (some [D.agg [sc (bool c),ints u64 d,sc (int i64 e)]]):=lJ aU
def eE(f:Nat->dU):Nat->dU
 |0=>f 0
 |k+1=>bif decide (0<cO (dv (f (k+1))) (dv (eE f k)))then f (k+1)else eE f k
def qE(a:dU×dU×dU×dU):dU:=eE (t4 a.1 a.2.1 a.2.2.1 a.2.2.2) 3
def sp(a:dU×dU×dU×dU)(u:Unit):Prop×List D:=(aJ a.1/\aJ a.2.1/\aJ a.2.2.1/\aJ a.2.2.2,[.agg [.sc (.bool (qE a).1),.ints .u64 (qE a).2.1,.sc (.int .i64 (qE a).2.2)]])
theorem kN{f:Nat->dU}{n:Nat}(hf:∀i,i<n->aJ (f i)):∀k,k<n->aJ (eE f k)
 |0,h=>hf 0 h
 |k+1,h=>by
  unfold eE;cases decide (0<cO (dv (f (k+1))) (dv (eE f k)))
  ·exact kN hf k (by omega)
  ·exact hf (k+1) h
theorem L(b0:Bool)(x1:Int)(n:Nat)(f:Nat->dU)(hn:n<1000)(hf:∀i,i<n+1->aJ (f i)):∀d k:Nat,k+d=n->L3 b0 x1 (eE f k).1 (eE f k).2.1 (eE f k).2.2 n (fun i=>(f (1+i)).1) (fun i=>(f (1+i)).2.1) (fun i=>(f (1+i)).2.2) (n:Int) (k:Int)=some [.agg [.sc (.bool (eE f n).1),.ints .u64 (eE f n).2.1,.sc (.int .i64 (eE f n).2.2)]]
 |0,k,h=>by
  obtain rfl:k=n:=by omega
  rw[pP,aI]
 |d+1,k,h=>by
  have e:i64.wrap ((k:Int)+1)=((k+1:Nat):Int):=by rw[wrap_i64];omega
  have r:=L b0 x1 n f hn hf d (k+1) (by omega);have g1:aJ (f (1+k)):=hf _ (by omega);have g2:aJ (eE f k):=kN hf k (by omega);have c1:f (k+1)=f (1+k):=by rw[bTD]
  rw[pP,aO,aT,bQX,gP ⟨g1,g2⟩,e]
  by_cases hc:0<cO (dv (f (k+1))) (dv (eE f k))
  ·have hb:eE f (k+1)=f (1+k):=by
    rw[<-c1];show(bif decide (0<cO (dv (f (k+1))) (dv (eE f k)))then f (k+1)else eE f k)=_;rw[decide_eq_true hc];rfl
   rw[c1]at hc;rw[aO hc];rw[hb]at r;exact r
  ·have hb:eE f (k+1)=eE f k:=by
    show(bif decide (0<cO (dv (f (k+1))) (dv (eE f k)))then f (k+1)else eE f k)=_;rw[decide_eq_false hc];rfl
   rw[c1]at hc;rw[aI hc];rw[hb]at r;exact r
theorem all{a:dU×dU×dU×dU}(h:aJ a.1/\aJ a.2.1/\aJ a.2.2.1/\aJ a.2.2.2):∀i,i<4->aJ (t4 a.1 a.2.1 a.2.2.1 a.2.2.2 i):=fun i hi=>by
  obtain rfl |rfl |rfl |rfl:i=0\/i=1\/i=2\/i=3:=by omega
  ·exact h.1
  ·exact h.2.1
  ·exact h.2.2.1
  ·exact h.2.2.2
theorem zJ{a:dU×dU×dU×dU}(h:aJ a.1/\aJ a.2.1/\aJ a.2.2.1/\aJ a.2.2.2):aJ (qE a):=kN (n:=4) (all h) 3 (by decide)
theorem spec:fO E f102 aE (aMB (.pair sB (.pair (sI .u64) (sN .i64))) (false,[],0)) (pFn 104) sp:=fun a u h =>
 (start a.1 a.2.1 a.2.2.1 a.2.2.2).trans (L false 0 3 (t4 a.1 a.2.1 a.2.2.1 a.2.2.2) (by decide) (all h) 3 0 (by decide))
def aH:dC:=orc2 (aMB (.pair sB (.pair (sI .u64) (sN .i64))) (false,[],0)) (pFn 104) sp
theorem ok:OK 102 aH:=(eI E aE (aA Bj.ok aD) func102).lP rfl spec
end iS
namespace Oo
def E:=mE [(102,iS.aH)] 5 [] [] []
def aE:=bd f44
theorem aU:Nk E aE:=nk
theorem start(a:dU)(b:dU)(c:dU)(d:dU):aF E f44 aE [D.rows 3 4 fun i=>[sc (bool (t4 a b c d i).fst),ints u64 (t4 a b c d i).snd.fst,sc (int i64 (t4 a b c d i).snd.snd)]]=letI G:=t4 a b c d 3;letI F:=t4 a b c d 2;letI K:=(F.fst,F.snd.fst,F.snd.snd);letI C:=t4 a b c d 1;letI I:=(C.fst,C.snd.fst,C.snd.snd);letI B:=t4 a b c d 0;letI H:=(B.fst,B.snd.fst,B.snd.snd);letI A:=iS.qE (H,I,K,G.fst,G.snd.fst,G.snd.snd);aQ (aJ H/\aJ I/\aJ K/\aJ (G.fst,G.snd.fst,G.snd.snd)) (some [D.agg [sc (bool A.fst),ints u64 A.snd.fst,sc (int i64 A.snd.snd)]]):=eJ aU
def sp(a:dU×dU×dU×dU):Prop×List D:=(aJ a.1/\aJ a.2.1/\aJ a.2.2.1/\aJ a.2.2.2,[.agg [.sc (.bool (iS.qE a).1),.ints .u64 (iS.qE a).2.1,.sc (.int .i64 (iS.qE a).2.2)]])
theorem spec:gO E f44 aE (aMB (.pair sB (.pair (sI .u64) (sN .i64))) (false,[],0)) sp:=fun a h =>
 (start a.1 a.2.1 a.2.2.1 a.2.2.2).trans (gP h)
def aH:dC:=orc1 (aMB (.pair sB (.pair (sI .u64) (sN .i64))) (false,[],0)) sp
theorem ok:OK 44 aH:=(eI E aE (aA iS.ok aD) func44).nD rfl spec
end Oo
namespace SMul
def E:Env:={ ({ base with C:=callsOf [(40,vH.aH),(41,dP.aH),(43,Om.aH),(44,Oo.aH),(42,xL.aH)],roll:=tlook [(6,3),(9,3)] })with nt:=69,own:=[20,48,66],keep:=fun k=>(tlook [(9,[2,4,6,9,11,29,30,31,39,40,41]),(6,[2,4,6,9,29,30,31])] k).getD [],cut:=tlook [(17,[2,6,1000009])] }
def aE:=bd f10
theorem start a b d e f g h i j k l m c:aF E f10 aE [D.agg [sc (bool a),ints u64 b,sc (int i64 d),sc (bool e),ints u64 f,sc (int i64 g)],D.agg [sc (bool h),ints u64 i,sc (int i64 j),sc (bool k),ints u64 l,sc (int i64 m)],D.s (sc (int i64 c))]=aQ (eB (a,b,d,e,f,g)/\eB (h,i,j,k,l,m)) (aC (if 1<=c/\c<=70000 then(0:Int)else(1:Int)) fun n=>aB (n !=0) (some [D.agg [sc (bool false),sc (slice none 0 0),sc (int i64 0),sc (bool false),sc (slice none 0 0),sc (int i64 0)],D.s (sc (int i64 n))]) (aQ (aJ (a,b,d)/\aJ (h,i,j)) (aC (isNeg (bif dP.kB (dv (a,b,d)) (dv (h,i,j))then dP.fD (dv (a,b,d)) (dv (h,i,j))else((0:Int),(0:Int))).fst) fun o=>aC (M6.dg (bif dP.kB (dv (a,b,d)) (dv (h,i,j))then dP.fD (dv (a,b,d)) (dv (h,i,j))else((0:Int),(0:Int))).fst.natAbs) fun p=>aC (bif dP.kB (dv (a,b,d)) (dv (h,i,j))then dP.fD (dv (a,b,d)) (dv (h,i,j))else((0:Int),(0:Int))).snd fun q=>aC (bif dP.kB (dv (a,b,d)) (dv (h,i,j))then(0:Int)else(5:Int)) fun r=>aB (r !=0) (some [D.agg [sc (bool false),sc (slice none 0 0),sc (int i64 0),sc (bool false),sc (slice none 0 0),sc (int i64 0)],D.s (sc (int i64 r))]) (aQ (aJ (a,b,d)/\aJ (k,l,m)) (aC (isNeg (bif dP.kB (dv (a,b,d)) (dv (k,l,m))then dP.fD (dv (a,b,d)) (dv (k,l,m))else((0:Int),(0:Int))).fst) fun s=>aC (M6.dg (bif dP.kB (dv (a,b,d)) (dv (k,l,m))then dP.fD (dv (a,b,d)) (dv (k,l,m))else((0:Int),(0:Int))).fst.natAbs) fun t=>aC (bif dP.kB (dv (a,b,d)) (dv (k,l,m))then dP.fD (dv (a,b,d)) (dv (k,l,m))else((0:Int),(0:Int))).snd fun u=>aC (bif dP.kB (dv (a,b,d)) (dv (k,l,m))then(0:Int)else(5:Int)) fun v=>aB (v !=0) (some [D.agg [sc (bool false),sc (slice none 0 0),sc (int i64 0),sc (bool false),sc (slice none 0 0),sc (int i64 0)],D.s (sc (int i64 v))]) (aQ (aJ (e,f,g)/\aJ (h,i,j)) (aC (isNeg (bif dP.kB (dv (e,f,g)) (dv (h,i,j))then dP.fD (dv (e,f,g)) (dv (h,i,j))else((0:Int),(0:Int))).fst) fun w=>aC (M6.dg (bif dP.kB (dv (e,f,g)) (dv (h,i,j))then dP.fD (dv (e,f,g)) (dv (h,i,j))else((0:Int),(0:Int))).fst.natAbs) fun x=>aC (bif dP.kB (dv (e,f,g)) (dv (h,i,j))then dP.fD (dv (e,f,g)) (dv (h,i,j))else((0:Int),(0:Int))).snd fun y=>aC (bif dP.kB (dv (e,f,g)) (dv (h,i,j))then(0:Int)else(5:Int)) fun z=>aB (z !=0) (some [D.agg [sc (bool false),sc (slice none 0 0),sc (int i64 0),sc (bool false),sc (slice none 0 0),sc (int i64 0)],D.s (sc (int i64 z))]) (aQ (aJ (e,f,g)/\aJ (k,l,m)) (aC (isNeg (bif dP.kB (dv (e,f,g)) (dv (k,l,m))then dP.fD (dv (e,f,g)) (dv (k,l,m))else((0:Int),(0:Int))).fst) fun aa=>aC (M6.dg (bif dP.kB (dv (e,f,g)) (dv (k,l,m))then dP.fD (dv (e,f,g)) (dv (k,l,m))else((0:Int),(0:Int))).fst.natAbs) fun ab=>aC (bif dP.kB (dv (e,f,g)) (dv (k,l,m))then dP.fD (dv (e,f,g)) (dv (k,l,m))else((0:Int),(0:Int))).snd fun ac=>aC (bif dP.kB (dv (e,f,g)) (dv (k,l,m))then(0:Int)else(5:Int)) fun ad=>aB (ad !=0) (some [D.agg [sc (bool false),sc (slice none 0 0),sc (int i64 0),sc (bool false),sc (slice none 0 0),sc (int i64 0)],D.s (sc (int i64 ad))]) (aQ (aJ (o,p,q)/\aJ (s,t,u)/\aJ (w,x,y)/\aJ (aa,ab,ac)) (aC (iQ.qE ((o,p,q),(s,t,u),(w,x,y),aa,ab,ac)).fst fun ae=>aC (iQ.qE ((o,p,q),(s,t,u),(w,x,y),aa,ab,ac)).snd.fst fun af=>aC (iQ.qE ((o,p,q),(s,t,u),(w,x,y),aa,ab,ac)).snd.snd fun ag=>aQ (aJ (o,p,q)/\aJ (s,t,u)/\aJ (w,x,y)/\aJ (aa,ab,ac)) (aC (iS.qE ((o,p,q),(s,t,u),(w,x,y),aa,ab,ac)).fst fun ah=>aC (iS.qE ((o,p,q),(s,t,u),(w,x,y),aa,ab,ac)).snd.fst fun ai=>aC (iS.qE ((o,p,q),(s,t,u),(w,x,y),aa,ab,ac)).snd.snd fun aj=>aQ (aJ (ae,af,ag)/\aJ (ah,ai,aj)/\(1<=c/\c<=70000)/\wA false (dv (ae,af,ag)) c=true/\wA true (dv (ah,ai,aj)) c=true) (aC (isNeg (M.shD false (dv (ae,af,ag)) c).fst) fun ak=>aC (M6.dg (M.shD false (dv (ae,af,ag)) c).fst.natAbs) fun al=>aC (M.shD false (dv (ae,af,ag)) c).snd fun am=>aC (isNeg (M.shD true (dv (ah,ai,aj)) c).fst) fun an=>aC (M6.dg (M.shD true (dv (ah,ai,aj)) c).fst.natAbs) fun ao=>aC (M.shD true (dv (ah,ai,aj)) c).snd fun ap=>some [D.agg [sc (bool ak),ints u64 al,sc (int i64 am),sc (bool an),ints u64 ao,sc (int i64 ap)],D.s (sc (int i64 0))]))))))))))))):=by kernel_rfl
def wT(a b:(Int×Int)×(Int×Int)):Int×Int:=Bq (Bq (Bq (dP.fD a.1 b.1) (dP.fD a.1 b.2)) (dP.fD a.2 b.1)) (dP.fD a.2 b.2)
def wU(a b:(Int×Int)×(Int×Int)):Int×Int:=Bs (Bs (Bs (dP.fD a.1 b.1) (dP.fD a.1 b.2)) (dP.fD a.2 b.1)) (dP.fD a.2 b.2)
def aJO(a b:(Int×Int)×(Int×Int)):Prop:=dP.kB a.1 b.1=true/\dP.kB a.1 b.2=true/\dP.kB a.2 b.1=true/\dP.kB a.2 b.2=true
abbrev eS(s:rQ):(Int×Int)×(Int×Int):=(dv (gM s),dv (gN s))
def sp(s t:rQ)(p:Int):Prop×List D:=((eB s/\eB t)/\(1<=p/\p<=70000)/\aJO (eS s) (eS t)/\wA false (wT (eS s) (eS t)) p=true/\wA true (wU (eS s) (eS t)) p=true,[yM (shD false (wT (eS s) (eS t)) p) (shD true (wU (eS s) (eS t)) p),.s (.sc (.int .i64 0))])
theorem Fi{p q:Int×Int}(h:dP.kB p q=true):jG (dP.fD p q):=by
 unfold dP.kB at h;rw[bNH]at h;exact fM h.2 (of_decide_eq_true h.1)
theorem bIF(a:dU×dU×dU×dU):dv (iQ.qE a)=Bq (Bq (Bq (dv a.1) (dv a.2.1)) (dv a.2.2.1)) (dv a.2.2.2):=by
 have st:∀x y:dU,dv (bif decide (cO (dv x) (dv y)<0)then x else y)=Bq (dv y) (dv x):=by
  intro x y;unfold Bq;cases decide (cO (dv x) (dv y)<0) <;> rfl
 show dv (bif decide (cO (dv a.2.2.2) (dv (bif decide (cO (dv a.2.2.1) (dv (bif decide (cO (dv a.2.1) (dv a.1)<0)then a.2.1 else a.1))<0)then a.2.2.1 else(bif decide (cO (dv a.2.1) (dv a.1)<0)then a.2.1 else a.1)))<0)then a.2.2.2 else(bif decide (cO (dv a.2.2.1) (dv (bif decide (cO (dv a.2.1) (dv a.1)<0)then a.2.1 else a.1))<0)then a.2.2.1 else(bif decide (cO (dv a.2.1) (dv a.1)<0)then a.2.1 else a.1)))=_;rw[st,st,st]
theorem bME(a:dU×dU×dU×dU):dv (iS.qE a)=Bs (Bs (Bs (dv a.1) (dv a.2.1)) (dv a.2.2.1)) (dv a.2.2.2):=by
 have st:∀x y:dU,dv (bif decide (0<cO (dv x) (dv y))then x else y)=Bs (dv y) (dv x):=by
  intro x y;unfold Bs;cases decide (0<cO (dv x) (dv y)) <;> rfl
 show dv (bif decide (0<cO (dv a.2.2.2) (dv (bif decide (0<cO (dv a.2.2.1) (dv (bif decide (0<cO (dv a.2.1) (dv a.1))then a.2.1 else a.1)))then a.2.2.1 else(bif decide (0<cO (dv a.2.1) (dv a.1))then a.2.1 else a.1))))then a.2.2.2 else(bif decide (0<cO (dv a.2.2.1) (dv (bif decide (0<cO (dv a.2.1) (dv a.1))then a.2.1 else a.1)))then a.2.2.1 else(bif decide (0<cO (dv a.2.1) (dv a.1))then a.2.1 else a.1)))=_;rw[st,st,st]
theorem spec:tL E f10 aE sT sT (pN .i64) sp:=by
 rintro s t p ⟨⟨h1,h2⟩,hp,⟨m1,m2,m3,m4⟩,i1,i2⟩;have hL:aJ (s.1,s.2.1,s.2.2.1):=h1.1;have hH:aJ (s.2.2.2.1,s.2.2.2.2.1,s.2.2.2.2.2):=h1.2.1;have kL:aJ (t.1,t.2.1,t.2.2.1):=h2.1;have kH:aJ (t.2.2.2.1,t.2.2.2.2.1,t.2.2.2.2.2):=h2.2.1;refine(start s.1 s.2.1 s.2.2.1 s.2.2.2.1 s.2.2.2.2.1 s.2.2.2.2.2 t.1 t.2.1 t.2.2.1 t.2.2.2.1 t.2.2.2.2.1 t.2.2.2.2.2 p).trans ?_;unfold sp wT wU eS at *;dsimp only at *;unfold gM gN at *;generalize ha:dv (s.1,s.2.1,s.2.2.1)=a at *;generalize hb:dv (s.2.2.2.1,s.2.2.2.2.1,s.2.2.2.2.2)=b at *;generalize hc:dv (t.1,t.2.1,t.2.2.1)=c at *;generalize hd:dv (t.2.2.2.1,t.2.2.2.2.1,t.2.2.2.2.2)=d at *;have d1:=cQ (Fi m1);have d2:=cQ (Fi m2);have d3:=cQ (Fi m3);have d4:=cQ (Fi m4);have e1:=dK (dP.fD a c);have e2:=dK (dP.fD a d);have e3:=dK (dP.fD b c);have e4:=dK (dP.fD b d);rw[gP ⟨h1,h2⟩,aL,if_pos hp,gT rfl,gP ⟨hL,kL⟩];simp only[aL,m1,m2,m3,m4,cond_true];rw[gT rfl,gP ⟨hL,kH⟩,gT rfl,gP ⟨hH,kL⟩,gT rfl,gP ⟨hH,kH⟩,gT rfl];obtain⟨Q,hQ⟩:∃Q:dU×dU×dU×dU,Q=((isNeg (dP.fD a c).1,M6.dg (dP.fD a c).1.natAbs,(dP.fD a c).2),(isNeg (dP.fD a d).1,M6.dg (dP.fD a d).1.natAbs,(dP.fD a d).2),(isNeg (dP.fD b c).1,M6.dg (dP.fD b c).1.natAbs,(dP.fD b c).2),(isNeg (dP.fD b d).1,M6.dg (dP.fD b d).1.natAbs,(dP.fD b d).2)):=⟨_,rfl⟩;have dQ:aJ Q.1/\aJ Q.2.1/\aJ Q.2.2.1/\aJ Q.2.2.2:=by rw[hQ];exact⟨d1,d2,d3,d4⟩
 have v1:=bIF Q;have v2:=bME Q;have k1:=iQ.zJ dQ;have k2:=iS.zJ dQ;rw[show dv Q.1=dP.fD a c by rw[hQ];exact e1,show dv Q.2.1=dP.fD a d by rw[hQ];exact e2,show dv Q.2.2.1=dP.fD b c by rw[hQ];exact e3,show dv Q.2.2.2=dP.fD b d by rw[hQ];exact e4]at v1 v2;rw[gP ⟨d1,d2,d3,d4⟩,gP ⟨d1,d2,d3,d4⟩,<-hQ];rw[<-v1]at i1 ⊢;rw[<-v2]at i2 ⊢;exact gP ⟨k1,k2,hp,i1,i2⟩
def aH:dC:=orc3 sT sT (pN .i64) sp
theorem fnok:qI prog E 10 f10 aE:=aAE pE mixed (kK _ rfl (aA vH.ok (aA dP.ok (aA Om.ok (aA Oo.ok (aA xL.ok aD))))) (mI)) func10 rfl rfl rfl
theorem ok:lA prog base.glob 10 aH:=fnok.Bp rfl spec
end SMul
end W
namespace M
open Go AI W
theorem Mo{a b x:Rat}{y:Rat}(h1:a<=x)(h2:x<=b):(a*y<=x*y\/b*y<=x*y)/\(x*y<=a*y\/x*y<=b*y):=by
 by_cases h:0<=y
 ·have m1:=R.aG (show 0<=x-a by grind) h;have m2:=R.aG (show 0<=b-x by grind) h;exact⟨.inl (by grind),.inr (by grind)⟩
 ·have m1:=R.aG (show 0<=x-a by grind) (show 0<=-y by grind);have m2:=R.aG (show 0<=b-x by grind) (show 0<=-y by grind);exact⟨.inr (by grind),.inl (by grind)⟩
theorem aOG{a b:(Int×Int)×(Int×Int)}{x y:Rat}(h1:R.qz a.1<=x)(h2:x<=R.qz a.2)(h3:R.qz b.1<=y)(h4:y<=R.qz b.2):R.qz (SMul.wT a b)<=x*y/\x*y<=R.qz (SMul.wU a b):=by
 obtain⟨l1,l2⟩:=Ty (dP.fD a.1 b.1) (dP.fD a.1 b.2);obtain⟨l3,l4⟩:=Ty (Bq (dP.fD a.1 b.1) (dP.fD a.1 b.2)) (dP.fD a.2 b.1);obtain⟨l5,l6⟩:=Ty (Bq (Bq (dP.fD a.1 b.1) (dP.fD a.1 b.2)) (dP.fD a.2 b.1)) (dP.fD a.2 b.2);obtain⟨g1,g2⟩:=Ul (dP.fD a.1 b.1) (dP.fD a.1 b.2);obtain⟨g3,g4⟩:=Ul (Bs (dP.fD a.1 b.1) (dP.fD a.1 b.2)) (dP.fD a.2 b.1);obtain⟨g5,g6⟩:=Ul (Bs (Bs (dP.fD a.1 b.1) (dP.fD a.1 b.2)) (dP.fD a.2 b.1)) (dP.fD a.2 b.2);change R.qz (SMul.wT a b)<=_ at l5 l6;change _<=R.qz (SMul.wU a b)at g5 g6;rw[Ag]at l1 l2 l4 l6 g1 g2 g4 g6;generalize R.qz (SMul.wT a b)=L at *;generalize R.qz (SMul.wU a b)=H at *;generalize R.qz (Bq (Bq (dP.fD a.1 b.1) (dP.fD a.1 b.2)) (dP.fD a.2 b.1))=L2 at *;generalize R.qz (Bq (dP.fD a.1 b.1) (dP.fD a.1 b.2))=L1 at *;generalize R.qz (Bs (Bs (dP.fD a.1 b.1) (dP.fD a.1 b.2)) (dP.fD a.2 b.1))=G2 at *;generalize R.qz (Bs (dP.fD a.1 b.1) (dP.fD a.1 b.2))=G1 at *;generalize R.qz a.1=a1 at *;generalize R.qz a.2=a2 at *;generalize R.qz b.1=b1 at *;generalize R.qz b.2=b2 at *;obtain⟨m1,m2⟩:=Mo (y:=y) h1 h2;obtain⟨p1,p2⟩:=Mo (y:=a1) h3 h4;obtain⟨q1,q2⟩:=Mo (y:=a2) h3 h4;constructor
 ·rcases m1 with m |m
  ·rcases p1 with p |p <;> grind
  ·rcases q1 with q |q <;> grind
 ·rcases m2 with m |m
  ·rcases p2 with p |p <;> grind
  ·rcases q2 with q |q <;> grind
end M
namespace W
open Go AI M
namespace Oy
def E:=mE [(63,iK.aH)] 31 [] [] []
def aE:=bd f204
theorem aU:Nk E aE:=nk
theorem start a b c:aF E f204 aE [D.s (ints u64 a),D.s (ints u64 b),D.s (sc (int i64 c))]=letI C:=i64.wrap ((0:Int)-c);letI B:=bif fN (wv (false,b)) C then aK (wv (false,b)) C else((0:Int),(0:Int));letI A:=bif fN (wv (false,a)) C then aK (wv (false,a)) C else((0:Int),(0:Int));aQ (kA (false,a)/\(-9223372036854775808:Int)<=i64.wrap ((0:Int)-c)/\i64.wrap ((0:Int)-c)<9223372036854775808) (aC (isNeg A.fst) fun d=>aC (M6.dg A.fst.natAbs) fun e=>aC A.snd fun f=>aQ (kA (false,b)/\(-9223372036854775808:Int)<=i64.wrap ((0:Int)-c)/\i64.wrap ((0:Int)-c)<9223372036854775808) (aC (isNeg B.fst) fun g=>aC (M6.dg B.fst.natAbs) fun h=>aC B.snd fun i=>some [D.agg [sc (bool d),ints u64 e,sc (int i64 f),sc (bool g),ints u64 h,sc (int i64 i)],D.s (sc (int i64 0))])):=eJ aU
def sp(a b:List Int)(w:Int):Prop×List D:=(kA (false,a)/\kA (false,b)/\(-100000<=w/\w<=100000)/\fN (wv (false,a)) (-w)=true/\fN (wv (false,b)) (-w)=true,[yM (aK (wv (false,a)) (-w)) (aK (wv (false,b)) (-w)),.s (.sc (.int .i64 0))])
theorem spec:tL E f204 aE (pI .u64) (pI .u64) (pN .i64) sp:=by
 rintro a b w ⟨ha,hb,hw,i1,i2⟩;have e:i64.wrap (0-w)=-w:=by rw[wrap_i64];omega
 refine(start a b w).trans ?_;rw[e,i1,i2,gP ⟨ha,by omega,by omega⟩];simp only[aL,cond_true];rw[gP ⟨hb,by omega,by omega⟩];rfl
def aH:dC:=orc3 (pI .u64) (pI .u64) (pN .i64) sp
theorem ok:OK 204 aH:=(eI E aE (aA iK.ok aD) func204).Bp rfl spec
end Oy
namespace aHS
def E:=mE [(124,rE.aH),(117,mP.aH),(204,Oy.aH)] 26 [23] [] []
def aE:=bd f163
theorem aU:Nk E aE:=nk
theorem start a b c:aF E f163 aE [D.s (ints u64 a),D.s (sc (int i64 b)),D.s (sc (int i64 c))]=letI F:=int i64 0;letI C:=M6.val a+M6.val (M6.dg 1);letI A:=aK (wv (false,a)) (-c);aB (b !=0) (some [D.agg [sc (bool false),sc (slice none 0 0),sc F,sc (bool false),sc (slice none 0 0),sc F],D.s (sc (int i64 b))]) (aQ ((0:Int)<=(1:Int)/\(1:Int)<(18446744073709551616:Int)) (aQ (M6.cD a/\M6.cD (M6.dg 1)/\a.length<=8192/\(M6.dg 1).length<=8192) (aC (bif bZ.kX C then M6.dg C else []) fun d=>letI B:=aK (wv (false,d)) (-c);aQ (kA (false,a)/\kA (false,d)/\((-100000:Int)<=c/\c<=100000)/\fN (wv (false,a)) (-c)=true/\fN (wv (false,d)) (-c)=true) (aC (isNeg A.fst) fun e=>aC (M6.dg A.fst.natAbs) fun f=>aC A.snd fun g=>aC (isNeg B.fst) fun h=>aC (M6.dg B.fst.natAbs) fun i=>aC B.snd fun j=>some [D.agg [sc (bool e),ints u64 f,sc (int i64 g),sc (bool h),ints u64 i,sc (int i64 j)],D.s (sc F)])))):=eJ aU
def sp(a:List Int)(e p:Int):Prop×List D:=(e=0/\M6.cD a/\bl (M6.val a)<=100000/\1<=p/\p<=70000,[yM (aK (M6.val a:Int) (-p)) (aK ((M6.val a:Int)+1) (-p)),.s (.sc (.int .i64 0))])
theorem spec:tL E f163 aE (pI .u64) (pN .i64) (pN .i64) sp:=by
 rintro a e p ⟨rfl,ha,hb,p0,p1⟩;have hv:M6.val a<2^100000:=dV.1 hb;have aTQ:M6.val a+1<2^100001:=by rw[bSA];omega
 have ok:=dA.aMD aTQ (by omega);have la:a.length<=8192:=by
  have:=dA.jX hv (by omega);rwa [M6.Fl ha]at this
 have l1:(M6.dg 1).length<=8192:=dA.jX (k:=1) (by decide) (by omega);have e1:wv (false,a)=(M6.val a:Int):=rfl;have e2:wv (false,M6.dg (M6.val a+1))=(M6.val a:Int)+1:=by
  show((M6.val (M6.dg (M6.val a+1)):Nat):Int)=_;rw[M6.bJ];omega
 have b1:bl (M6.val a+1)<=100001:=dV.2 aTQ;have i1:fN (M6.val a:Int) (-p)=true:=fP (by omega) (by rw[bSU];omega);have i2:fN ((M6.val a:Int)+1) (-p)=true:=fP (by omega) (by rw[show((M6.val a:Int)+1).natAbs=M6.val a+1 by omega];omega);refine(start a 0 p).trans ?_;rw[gT rfl,gP ⟨by decide,by decide⟩,gP ⟨ha,M6.aW _,la,l1⟩,M6.bJ,ok,cond_true,aL];refine(gP ⟨⟨ha,fun h=>(by cases h),la⟩,⟨M6.aW _,fun h=>(by cases h),dA.jX aTQ (by omega)⟩,by omega,by rw[e1];exact i1,by rw[e2];exact i2⟩).trans ?_;rw[e1,e2];rfl
def aH:dC:=orc3 (pI .u64) (pN .i64) (pN .i64) sp
theorem ok:OK 163 aH:=(eI E aE (aA rE.ok (aA mP.ok (aA Oy.ok aD))) func163).Bp rfl spec
end aHS
namespace qH
def E:=mE [(162,uJ.aH),(163,aHS.aH)] 17 [14] [] []
def aE:=bd f110
theorem aU:Nk E aE:=nk
theorem start a:aF E f110 aE [D.s (sc (int i64 a))]=letI C:=M6.dg (R.pF a.toNat);letI A:=(↑(M6.val C):Int);letI F:=aK A (-a);letI B:=aK (A+(1:Int)) (-a);aQ (1<=a/\a<=70000) (aQ ((0:Int)=(0:Int)/\M6.cD C/\bl (M6.val C)<=100000/\1<=a/\a<=70000) (aC (isNeg F.fst) fun b=>aC (M6.dg F.fst.natAbs) fun c=>aC F.snd fun d=>aC (isNeg B.fst) fun e=>aC (M6.dg B.fst.natAbs) fun f=>aC B.snd fun g=>some [D.agg [sc (bool b),ints u64 c,sc (int i64 d),sc (bool e),ints u64 f,sc (int i64 g)],D.s (sc (int i64 0))])):=eJ aU
def qU(p:Int):(Int×Int)×(Int×Int):=(aK (R.pF p.toNat:Int) (-p),aK ((R.pF p.toNat:Int)+1) (-p))
def sp(p:Int):Prop×List D:=(1<=p/\p<=70000,[yM (qU p).1 (qU p).2,.s (.sc (.int .i64 0))])
theorem aMC{p:Int}(h:1<=p/\p<=70000):bl (R.pF p.toNat)<=100000:=by
 obtain⟨q,rfl⟩:=bSE (show 0<=p by omega);rw[bQX];have h1:=(R.Gq (q:=q) (by omega)).1;obtain⟨_,p2⟩:=R.iO;have P:(0:Rat)<((2^q:Nat):Rat):=by exact_mod_cast bQA (n:=q) (show 0<2 by decide)
 have m:=R.aG (bSJ P) (show 0<=4-R.pi by grind);have h2:(R.pF q:Rat)<=((2^(q+2):Nat):Rat):=by
  have:((2^(q+2):Nat):Rat)=((2^q:Nat):Rat)*4:=by rw[bSD];push_cast;norm_cast
  grind
 have h3:R.pF q<=2^(q+2):=by exact_mod_cast h2
 have h4:R.pF q<2^(q+3):=by
  have:2^(q+3)=2*2^(q+2):=by rw[bSA];omega
  have:=bQA (n:=q+2) (show 0<2 by decide);omega
 have:=dV.2 h4;omega
theorem spec:gO E f110 aE (pN .i64) sp:=by
 intro p h;refine(start p).trans ((gP h).trans ?_);have b:=aMC h;refine(gP ⟨rfl,M6.aW _,by rw[M6.bJ];exact b,h.1,h.2⟩).trans ?_;rw[M6.bJ];rfl
def aH:dC:=orc1 (pN .i64) sp
theorem ok:OK 110 aH:=(eI E aE (aA uJ.ok (aA aHS.ok aD)) func110).nD rfl spec
end qH
namespace fT
def E:=mE [(110,qH.aH),(36,Ij.aH),(10,SMul.aH),(94,sH.aH),(95,cU.aH)] 48 [] [] []
def aE:=bd f56
theorem aU:Nk E aE:=nk
theorem start a c d b:aF E f56 aE [D.agg [sc (bool a),ints u64 c,sc (int i64 d)],D.s (sc (int i64 b))]=letI P:=qH.qU b;letI F:=i64.wrap (b+8);letI A:=SMul.eS ((a,c,d).fst,(a,c,d).snd.fst,(a,c,d).snd.snd,(a,c,d).fst,(a,c,d).snd.fst,(a,c,d).snd.snd);aQ (1<=b/\b<=70000) (aC (isNeg P.fst.fst) fun e=>aC (M6.dg P.fst.fst.natAbs) fun f=>aC P.fst.snd fun g=>aC (isNeg P.snd.fst) fun h=>aC (M6.dg P.snd.fst.natAbs) fun i=>aC P.snd.snd fun j=>letI Q:=(e,f,g,h,i,j);letI B:=SMul.eS Q;letI O:=M.shD true (SMul.wU A B) F;letI I:=M.shD false (SMul.wT A B) F;aQ (aJ (a,c,d)) (aQ ((eB (a,c,d,a,c,d)/\eB Q)/\(1<=i64.wrap (b+8)/\i64.wrap (b+8)<=70000)/\SMul.aJO (dv (gM ((a,c,d).fst,(a,c,d).snd.fst,(a,c,d).snd.snd,(a,c,d).fst,(a,c,d).snd.fst,(a,c,d).snd.snd)),dv (gN ((a,c,d).fst,(a,c,d).snd.fst,(a,c,d).snd.snd,(a,c,d).fst,(a,c,d).snd.fst,(a,c,d).snd.snd))) (dv (gM Q),dv (gN Q))/\wA false (SMul.wT A B) F=true/\wA true (SMul.wU A B) F=true) (aC (isNeg I.fst) fun k=>aC (M6.dg I.fst.natAbs) fun l=>aC I.snd fun m=>aC (isNeg O.fst) fun n=>aC (M6.dg O.fst.natAbs) fun o=>aC O.snd fun p=>letI C:=(k,l,m,n,o,p);letI N:=eR.Mg (dv (gN C)) (b+2);letI K:=eR.Mf (dv (gM C)) (b+2);letI H:=bC.rD (dv (cU.zH C)) (b+2);letI G:=bC.qD (dv (cU.sU C)) (b+2);aQ (sH.aCN C b) (aC (isNeg K.fst) fun q=>aC (M6.dg K.fst.natAbs) fun r=>aC K.snd fun s=>aC (isNeg N.fst) fun t=>aC (M6.dg N.fst.natAbs) fun u=>aC N.snd fun v=>aQ (cU.aLA C b) (aC (isNeg H.fst) fun w=>aC (M6.dg H.fst.natAbs) fun x=>aC H.snd fun y=>aC (isNeg G.fst) fun z=>aC (M6.dg G.fst.natAbs) fun aa=>aC G.snd fun ab=>some [D.agg [sc (bool q),ints u64 r,sc (int i64 s),sc (bool t),ints u64 u,sc (int i64 v)],D.agg [sc (bool w),ints u64 x,sc (int i64 y),sc (bool z),ints u64 aa,sc (int i64 ab)]]))))):=eJ aU
def zK(r:Int×Int)(q:Int):(Int×Int)×(Int×Int):=(shD false (SMul.wT (r,r) (qH.qU q)) (q+8),shD true (SMul.wU (r,r) (qH.qU q)) (q+8))
def aWL(r:Int×Int)(q:Int):rQ:=mQ (zK r q).1 (zK r q).2
def aKY(r:Int×Int)(q:Int):Prop:=eB (mQ (qH.qU q).1 (qH.qU q).2)/\SMul.aJO (r,r) (qH.qU q)/\wA false (SMul.wT (r,r) (qH.qU q)) (q+8)=true/\wA true (SMul.wU (r,r) (qH.qU q)) (q+8)=true/\sH.aCN (aWL r q) q/\cU.aLA (aWL r q) q
def sp(x:dU)(q:Int):Prop×List D:=(aJ x/\(1<=q/\q<=66500)/\aKY (dv x) q,[yM (gS (zK (dv x) q).1 (zK (dv x) q).2 (q+2)).1 (gS (zK (dv x) q).1 (zK (dv x) q).2 (q+2)).2,yM (gC (zK (dv x) q).1 (zK (dv x) q).2 (q+2)).1 (gC (zK (dv x) q).1 (zK (dv x) q).2 (q+2)).2])
theorem fold(a b:Int×Int):(isNeg a.1,M6.dg a.1.natAbs,a.2,isNeg b.1,M6.dg b.1.natAbs,b.2)=mQ a b:=rfl
theorem spec:fO E f56 aE hZ (pN .i64) sp:=by
 rintro x q ⟨hx,hq,h1,h2,h3,h4,h5,h6⟩;obtain⟨a,b,c⟩:=x;have w:i64.wrap (q+8)=q+8:=wrap_i64;have eP:SMul.eS (mQ (qH.qU q).1 (qH.qU q).2)=qH.qU q:=by
  show(dv (gM (mQ _ _)),dv (gN (mQ _ _)))=_;rw[qJ,qK]
 have sx:eB (a,b,c,a,b,c):=⟨hx,hx,Li _⟩;refine(start a b c q).trans ((gP ⟨hq.1,by omega⟩).trans ?_);rw[aL,aL,aL,aL,aL,aL,fold,w,eP];refine(gP hx).trans ((gP ⟨⟨sx,h1⟩,⟨by omega,by omega⟩,by rw[qJ,qK];exact h2,h3,h4⟩).trans ?_);rw[aL,aL,aL,aL,aL,aL,fold];have e1:dv (gM (aWL (dv (a,b,c)) q))=(zK (dv (a,b,c)) q).1:=qJ _ _;have e2:dv (gN (aWL (dv (a,b,c)) q))=(zK (dv (a,b,c)) q).2:=qK _ _;have f:mQ (M.shD false (SMul.wT (SMul.eS (a,b,c,a,b,c)) (qH.qU q)) (q+8)) (M.shD true (SMul.wU (SMul.eS (a,b,c,a,b,c)) (qH.qU q)) (q+8))=aWL (dv (a,b,c)) q:=rfl;change aQ (sH.aCN (mQ (M.shD false (SMul.wT (SMul.eS (a,b,c,a,b,c)) (qH.qU q)) (q+8)) (M.shD true (SMul.wU (SMul.eS (a,b,c,a,b,c)) (qH.qU q)) (q+8))) q) _=_;rw[f,gP h5,aL,aL,aL,aL,aL,aL,gP h6,e1,e2];rfl
def aH:dC:=orc2 hZ (pN .i64) sp
theorem ok:OK 56 aH:=(eI E aE (aA qH.ok (aA Ij.ok (aA SMul.ok (aA sH.ok (aA cU.ok aD))))) func56).lP rfl spec
end fT
end W
namespace M
open Go AI W
structure aQK(r:Int×Int):Prop where
 uS:jG r
 b:bl r.1.natAbs<=1100
 e:-1100<=r.2/\r.2<=0
 q:R.ab (R.qz r)<=1/4
 g:R.pz (-1075)<=R.ab (R.qz r)
theorem aJJ{q:Int}(hq:1<=q/\q<=66500):(jG (qH.qU q).1/\jG (qH.qU q).2)/\(bl (qH.qU q).1.1.natAbs<=100001/\bl (qH.qU q).2.1.natAbs<=100001)/\(-70000<=(qH.qU q).1.2/\(qH.qU q).1.2<=200000)/\(-70000<=(qH.qU q).2.2/\(qH.qU q).2.2<=200000)/\R.qz (qH.qU q).1<=R.pi/\R.pi<=R.qz (qH.qU q).2/\R.qz (qH.qU q).2-R.qz (qH.qU q).1=R.pz (-q):=by
 have hb:=qH.aMC (p:=q) ⟨hq.1,by omega⟩;have aKE:bl ((R.pF q.toNat:Int)+1).natAbs<=100001:=by
  have h1:=dV.1 hb;refine dV.2 ?_;rw[show((R.pF q.toNat:Int)+1).natAbs=R.pF q.toNat+1 by omega,bSA];omega
 have vR:bl ((R.pF q.toNat:Int)).natAbs<=100001:=by rw[bSU];omega
 have i1:fN (R.pF q.toNat:Int) (-q)=true:=fP (by omega) (by omega);have i2:fN ((R.pF q.toNat:Int)+1) (-q)=true:=fP (by omega) (by omega);have ex:∀z:Int,bl z.natAbs<=100001->-70000<=(aK z (-q)).2/\(aK z (-q)).2<=200000:=by
  intro z hz
  by_cases h0:z=0
  ·rw[h0,dO];decide
  ·have h1:=nJ (e:=-q) h0;have h2:=(jK (e:=-q) h0).2;have h3:=Fx (n:=z.natAbs) (by omega);have h4:tz z.natAbs<=100001:=by
    rcases Nat.lt_or_ge 100001 (tz z.natAbs)with h |h
    ·have:=dV.1 hz;have h5:2^100001<=2^tz z.natAbs:=fY;omega
    ·exact h
   omega
 have fl:=R.Gq (q:=q.toNat) (by omega);have P:=R.Tq q;have e:R.pz q=((2^q.toNat:Nat):Rat):=by
  have:=R.oH q.toNat;rwa [show((q.toNat:Nat):Int)=q by omega]at this
 rw[<-e]at fl;have z0:=R.dJ (-q);have m1:=R.aG (bSJ z0) (show 0<=R.pz q*R.pi-(R.pF q.toNat:Rat) by grind);have m2:=R.aG (bSJ z0) (show 0<=(R.pF q.toNat:Rat)+1-R.pz q*R.pi by grind);have k:R.pz (-q)*(R.pz q*R.pi)=R.pi:=by rw[<-bYL,bZV (R.pz (-q)),P];grind
 have q1:R.qz (qH.qU q).1=(R.pF q.toNat:Rat)*R.pz (-q):=by
  show R.qz (aK _ _)=_;rw[mT,bXT]
 have q2:R.qz (qH.qU q).2=((R.pF q.toNat:Rat)+1)*R.pz (-q):=by
  show R.qz (aK _ _)=_;rw[mT,bYY,bXT,show((1:Int):Rat)=1 by norm_cast]
 rw[q1,q2];exact⟨⟨fM i1 (by omega),fM i2 (by omega)⟩,⟨bNX (qV _ _) vR,bNX (qV _ _) aKE⟩,ex _ vR,ex _ aKE,by grind,by grind,by grind⟩
theorem aDO{a b:Int×Int}{m n:Nat}(ha:bl a.1.natAbs<=m)(hb:bl b.1.natAbs<=n)(h:m+n<=524288)(e1:-1048576<=a.2+b.2)(e2:a.2+b.2<=500000):dP.kB a b=true/\jG (dP.fD a b):=by
 have b0:=bNX (Ll a.1.natAbs b.1.natAbs) (Nat.add_le_add ha hb);rw[<-Int.natAbs_mul]at b0;have i:fN (a.1*b.1) (a.2+b.2)=true:=fP (by omega) (by omega);refine⟨?_,fM i (by omega)⟩;unfold dP.kB fit;rw[i,decide_eq_true (by omega)];rfl
theorem aQI{r:Int×Int}{p:Int}(h:aQK r)(hp:1<=p/\p<=66000):fT.aKY r (p+16)/\bDE (fT.zK r (p+16)).1 (fT.zK r (p+16)).2 (p-6) (p+18) (R.qz r*R.pi):=by
 obtain⟨Qm,hb,he,hq,hg⟩:=h;obtain⟨⟨u1,u2⟩,⟨b1,b2⟩,x1,x2,l1,l2,w⟩:=aJJ (q:=p+16) (by omega);obtain⟨o1,n1⟩:=aDO hb b1 (by omega) (by omega) (by omega);obtain⟨o2,n2⟩:=aDO hb b2 (by omega) (by omega) (by omega);have sP:eB (mQ (qH.qU (p+16)).1 (qH.qU (p+16)).2):=qQ u1 u2 (jT.2 (by grind));have mo:SMul.aJO (r,r) (qH.qU (p+16)):=⟨o1,o2,o1,o2⟩;obtain⟨g1,g2⟩:=aOG (a:=(r,r)) (b:=qH.qU (p+16)) (x:=R.qz r) (y:=R.pi) bTP bTP l1 l2;have pL:jG (SMul.wT (r,r) (qH.qU (p+16)))/\(R.qz (SMul.wT (r,r) (qH.qU (p+16)))=R.qz r*R.qz (qH.qU (p+16)).1\/R.qz (SMul.wT (r,r) (qH.qU (p+16)))=R.qz r*R.qz (qH.qU (p+16)).2):=by
  unfold SMul.wT;rw[<-Ag,<-Ag];have ls:∀{s t:Int×Int} {A B:Rat},(jG s/\(R.qz s=A\/R.qz s=B))->(jG t/\(R.qz t=A\/R.qz t=B))->jG (Bq s t)/\(R.qz (Bq s t)=A\/R.qz (Bq s t)=B):=by
   intro s t A B hs ht;rcases aDT s t with h |h <;> rw[h] <;> assumption
  exact ls (ls (ls ⟨n1,.inl rfl⟩ ⟨n2,.inr rfl⟩) ⟨n1,.inl rfl⟩) ⟨n2,.inr rfl⟩
 have pH:jG (SMul.wU (r,r) (qH.qU (p+16)))/\(R.qz (SMul.wU (r,r) (qH.qU (p+16)))=R.qz r*R.qz (qH.qU (p+16)).1\/R.qz (SMul.wU (r,r) (qH.qU (p+16)))=R.qz r*R.qz (qH.qU (p+16)).2):=by
  unfold SMul.wU;rw[<-Ag,<-Ag];have ls:∀{s t:Int×Int} {A B:Rat},(jG s/\(R.qz s=A\/R.qz s=B))->(jG t/\(R.qz t=A\/R.qz t=B))->jG (Bs s t)/\(R.qz (Bs s t)=A\/R.qz (Bs s t)=B):=by
   intro s t A B hs ht;rcases aFD s t with h |h <;> rw[h] <;> assumption
  exact ls (ls (ls ⟨n1,.inl rfl⟩ ⟨n2,.inr rfl⟩) ⟨n1,.inl rfl⟩) ⟨n2,.inr rfl⟩
 have z0:=R.dJ (-(p+16));have zs:R.pz (-(p+16))<=1/131072:=by
  have:=aNZ (p:=p-7) (by omega);rwa [show -(p-7)-23=-(p+16) by omega]at this
 obtain⟨aSR,aSQ⟩:=R.iO;generalize hL:SMul.wT (r,r) (qH.qU (p+16))=L at *;generalize hH:SMul.wU (r,r) (qH.qU (p+16))=H at *;generalize aFB:R.qz (qH.qU (p+16)).1=P1 at *;generalize hP2:R.qz (qH.qU (p+16)).2=P2 at *;generalize hz:R.pz (-(p+16))=z at *;have aJV:R.pz (-(p+16)-1)=z/2:=by
  have:=R.pU (-(p+16));rw[hz]at this;grind
 have a0:=R.aN (R.qz r);have bDA:∀(x y:Rat),0<=y->R.ab (x*y)=R.ab x*y:=fun x y hy=>by rw[R.fG,R.bG hy]
 have p1:0<=P1:=by grind
 have p2:0<=P2:=by grind
 have bGN:∀x:Rat,x=R.qz r*P1\/x=R.qz r*P2->R.ab x<=R.ab (R.qz r)*(16/5)/\R.ab x<=1:=by
  intro x hx;have m1:=R.aG a0 (show 0<=16/5-P1 by grind);have m2:=R.aG a0 (show 0<=16/5-P2 by grind);rcases hx with h |h
  ·rw[h,bDA _ _ p1];grind
  ·rw[h,bDA _ _ p2];grind
 obtain⟨bL,cL⟩:=bGN _ pL.2;obtain⟨bH,cH⟩:=bGN _ pH.2;have wd:R.qz H-R.qz L<=R.ab (R.qz r)*z:=by
  have t1:=R.Ao (R.qz r);have t2:=R.mW (R.qz r);have m1:=R.aG (show 0<=R.ab (R.qz r)-R.qz r by grind) (bSJ z0);have m2:=R.aG (show 0<=R.ab (R.qz r)+R.qz r by grind) (bSJ z0);have m3:=R.aG a0 (bSJ z0);have e:R.qz r*P2=R.qz r*P1+R.qz r*z:=by
   rw[show P2=P1+z by grind];grind
  rcases pL.2 with h |h <;> rcases pH.2 with h' |h' <;> rw[h,h'] <;> grind
 have bCX:(1:Rat)<=R.pz 1100:=by rw[<-R.fS];exact R.dR (by decide)
 obtain⟨i1,i2,bx⟩:=Xe (s:=(L,H)) (V:=R.qz r*R.pi) (m:=0) (n:=p+16+8) pL.1 pH.1 bTP (by dsimp only;grind) (by dsimp only;grind) wd (by omega) (by dsimp only;grind) (by dsimp only;grind);have eA:fT.zK r (p+16)=(shD false L (p+16+8),shD true H (p+16+8)):=by
  unfold fT.zK;rw[hL,hH]
 have e7:R.pz (1-(p+16+8))*128=z:=by
  have:=R.fJ (-(p+16)) (n:=7) (c:=128) (by norm_cast);rw[<-hz,<-this,show 1-(p+16+8)=-(p+16)-((7:Nat):Int) by omega]
 have aQH:R.ab (R.qz r*R.pi)=R.ab (R.qz r)*R.pi:=bDA _ _ (by grind);have bHC:R.pz (-1074)=2*R.pz (-1075):=by
  have:=R.pU (-1074);rw[show(-1074:Int)-1=-1075 by rfl]at this;grind
 have tr:=aNN (l:=(fT.zK r (p+16)).1) (h:=(fT.zK r (p+16)).2) (p:=p-6) (n:=p+18) (r:=R.qz r*R.pi) (by omega) (by omega) (by rw[eA];exact bx.pl) (by rw[eA];exact bx.ph) (by rw[eA];have:=bx.lo;dsimp only at this ⊢;grind) (by rw[eA];have:=bx.hi;dsimp only at this ⊢;grind)
  (by
   rw[eA,aQH,show -(p-6)-23=-(p+16)-1 by omega,aJV];have w2:=bx.wd;dsimp only at w2 ⊢;have m1:=R.aG (bSJ z0) a0;have m2:=R.aG (bSJ z0) (show 0<=R.ab (R.qz r)*(16/5)-R.ab (R.qz L) by grind);have m3:=R.aG (bSJ z0) (show 0<=R.ab (R.qz r)*(16/5)-R.ab (R.qz H) by grind);have m4:=R.aG (R.aG (bSJ z0) a0) (show 0<=R.pi-3 by grind);have e8:R.pz (1-(p+16+8))*(R.ab (R.qz L)+R.ab (R.qz H))*128=z*(R.ab (R.qz L)+R.ab (R.qz H)):=by rw[<-e7];grind
   grind)
  (by
   rw[aQH,bHC];have m1:=R.aG a0 (show 0<=R.pi-3 by grind);grind)
  (by
   rw[aQH];have m1:=R.aG a0 (show 0<=314160/100000-R.pi by grind);grind)
 refine⟨⟨sP,mo,by rw[hL];exact i1,by rw[hH];exact i2,?_,?_⟩,tr⟩
 ·have:=tr.so;rw[show p+18-2=p+16 by omega]at this;exact this
 ·have:=tr.co;rw[show p+18-2=p+16 by omega]at this;exact this
end M
namespace W
open Go AI M
namespace jU
def E:=mE [(31,iD.aH),(21,fL.aH)] 41 [] [(2,[0,4,7,8,10,15,16])] []
def aE:=bd f57
theorem aU:Nk E aE:=nk
def L2 a b c d e f g h i j k l m n o p q r s t:=nU E f57 aE 2 [bR a,bR b,dG 2 31 [cG c,eM d,cP e,cG f,eM g,cP h],dG 3 31 [cG i,eM j,cP k,cG l,eM m,cP n],dG 4 31 [cG o,sc (slice none 0 0),cP p,cG q,sc (slice none 0 0),cP r],bR s,bR t]
theorem start a b c d f g h i j k l m n o e:aF E f57 aE [D.s (sc (int i64 a)),D.s (sc (int i64 b)),D.agg [sc (bool c),ints u64 d,sc (int i64 f),sc (bool g),ints u64 h,sc (int i64 i)],D.agg [sc (bool j),ints u64 k,sc (int i64 l),sc (bool m),ints u64 n,sc (int i64 o)],D.s (sc (int i64 e))]=jU.L2 a e c d f g h i j k l m n o false 0 false 0 b 0:=eJ aU
theorem kC a b c d e f g h i j k l m n o p q r s t:L2 a b c d e f g h i j k l m n o p q r s t=letI F:=(i,j,k,l,m,n);letI O:=dv (gN F);letI N:=dv (gM F);letI C:=(c,d,e,f,g,h);letI H:=dv (gN C);letI G:=dv (gM C);letI B:=fL.Cj b G H N O;letI K:=aK B.fst B.snd;letI A:=fL.Ci b G H N O;letI I:=aK A.fst A.snd;aB (decide (t<s)) (aQ (eB C) (aC (isNeg (-H.fst)) fun u=>aC (M6.dg (-H.fst).natAbs) fun v=>aC H.snd fun w=>aC (isNeg (-G.fst)) fun x=>aC (M6.dg (-G.fst).natAbs) fun y=>aC G.snd fun z=>jU.L2 a b i j k l m n u v w x y z o p q r s (i64.wrap (t+1)))) (aB (a==4) (some [D.agg [sc (bool c),ints u64 d,sc (int i64 e),sc (bool f),ints u64 g,sc (int i64 h)]]) (aB (a==5) (some [D.agg [sc (bool i),ints u64 j,sc (int i64 k),sc (bool l),ints u64 m,sc (int i64 n)]]) (aQ (eB C/\eB F/\(1<=b/\b<=70000)/\gA.vM N O≠0/\(bl G.fst.natAbs<=262144/\bl H.fst.natAbs<=262144/\bl N.fst.natAbs<=262144/\bl O.fst.natAbs<=262144)/\fN A.fst A.snd=true/\fN B.fst B.snd=true) (aC (isNeg I.fst) fun aa=>aC (M6.dg I.fst.natAbs) fun ab=>aC I.snd fun ac=>aC (isNeg K.fst) fun ad=>aC (M6.dg K.fst.natAbs) fun ae=>aC K.snd fun af=>some [D.agg [sc (bool aa),ints u64 ab,sc (int i64 ac),sc (bool ad),ints u64 ae,sc (int i64 af)]])))):=lJ aU
def aLT (fn : Int) (n : Nat) (s c : (Int × Int) × (Int × Int)) (q : Int) : (Int × Int) × (Int × Int) :=
  bif fn == 4 then (VTurned.trn s c n).1 else bif fn == 5 then (VTurned.trn s c n).2 else
    (aK (fL.Ci q (VTurned.trn s c n).1.1 (VTurned.trn s c n).1.2 (VTurned.trn s c n).2.1 (VTurned.trn s c n).2.2).1 (fL.Ci q (VTurned.trn s c n).1.1 (VTurned.trn s c n).1.2 (VTurned.trn s c n).2.1 (VTurned.trn s c n).2.2).2,
     aK (fL.Cj q (VTurned.trn s c n).1.1 (VTurned.trn s c n).1.2 (VTurned.trn s c n).2.1 (VTurned.trn s c n).2.2).1 (fL.Cj q (VTurned.trn s c n).1.1 (VTurned.trn s c n).1.2 (VTurned.trn s c n).2.1 (VTurned.trn s c n).2.2).2)
def aJH(q:Int)(s c:(Int×Int)×(Int×Int)):Prop:=gA.vM c.1 c.2≠0/\(bl s.1.1.natAbs<=262144/\bl s.2.1.natAbs<=262144/\bl c.1.1.natAbs<=262144/\bl c.2.1.natAbs<=262144)/\fN (fL.Ci q s.1 s.2 c.1 c.2).1 (fL.Ci q s.1 s.2 c.1 c.2).2=true/\fN (fL.Cj q s.1 s.2 c.1 c.2).1 (fL.Cj q s.1 s.2 c.1 c.2).2=true
abbrev eS(s:rQ):(Int×Int)×(Int×Int):=(dv (gM s),dv (gN s))
def sp(fn k:Int)(s c:rQ)(q:Int):Prop×List D:=((eB s/\eB c)/\(0<=k/\k<=3)/\(1<=q/\q<=70000)/\(fn≠4->fn≠5->aJH q (VTurned.trn (eS s) (eS c) k.toNat).1 (VTurned.trn (eS s) (eS c) k.toNat).2),[yM (aLT fn k.toNat (eS s) (eS c) q).1 (aLT fn k.toNat (eS s) (eS c) q).2])
theorem L(fn q:Int)(hq:1<=q/\q<=70000):∀(d k:Nat) (s c:rQ),k+d<=1000->eB s->eB c->(fn≠4->fn≠5->aJH q (VTurned.trn (eS s) (eS c) d).1 (VTurned.trn (eS s) (eS c) d).2) ->
  L2 fn q s.1 s.2.1 s.2.2.1 s.2.2.2.1 s.2.2.2.2.1 s.2.2.2.2.2 c.1 c.2.1 c.2.2.1 c.2.2.2.1 c.2.2.2.2.1 c.2.2.2.2.2 false 0 false 0 ((k+d:Nat):Int) (k:Int)=some [yM (aLT fn d (eS s) (eS c) q).1 (aLT fn d (eS s) (eS c) q).2]
 |0,k,s,c,h,h1,h2,hk=>by
  rw[kC,aI];unfold aLT VTurned.trn;unfold VTurned.trn at hk;dsimp only at hk ⊢
  by_cases f4:fn=4
  ·rw[cF f4,f4];show _=some [yM (dv (gM s)) (dv (gN s))];rw[h1.yM]
  ·rw[bS f4,beq_eq_false_iff_ne.2 f4,cond_false]
   by_cases f5:fn=5
   ·rw[cF f5,f5];show _=some [yM (dv (gM c)) (dv (gN c))];rw[h2.yM]
   ·rw[bS f5,beq_eq_false_iff_ne.2 f5,cond_false];obtain⟨k0,k1,k2,k3⟩:=hk f4 f5;exact gP ⟨h1,h2,hq,k0,k1,k2,k3⟩
 |d+1,k,s,c,h,h1,h2,hk=>by
  have e:i64.wrap ((k:Int)+1)=((k+1:Nat):Int):=by rw[wrap_i64];omega
  rw[kC,aO,gP h1];simp only[aL,e];have en:eS (mQ (iD.sQ (dv (gN s))) (iD.sQ (dv (gM s))))=(iD.sQ (dv (gN s)),iD.sQ (dv (gM s))):=by
   show(dv (gM (mQ _ _)),dv (gN (mQ _ _)))=_;rw[qJ,qK]
  have r:=L fn q hq d (k+1) c (mQ (iD.sQ (dv (gN s))) (iD.sQ (dv (gM s)))) (by omega) h2 (VTurned.aOF h1) (by rw[en];exact hk);rw[en,show k+1+d=k+(d+1) by omega]at r;exact r
theorem spec(fn k:Int)(s c:rQ)(q:Int)(h:(sp fn k s c q).1):aF E f57 aE [(pN .i64).put fn,(pN .i64).put k,sT.put s,sT.put c,(pN .i64).put q]=some (sp fn k s c q).2:=by
 obtain⟨⟨h1,h2⟩,⟨q0,q1⟩,hq,hk⟩:=h;refine(start fn k s.1 s.2.1 s.2.2.1 s.2.2.2.1 s.2.2.2.2.1 s.2.2.2.2.2 c.1 c.2.1 c.2.2.1 c.2.2.2.1 c.2.2.2.2.1 c.2.2.2.2.2 q).trans ?_;obtain⟨n,rfl⟩:=bSE q0;have:=L fn q hq n 0 s c (by omega) h1 h2 hk;rw[bND]at this;exact this
def aH:dC:=orc5 (pN .i64) (pN .i64) sT sT (pN .i64) sp
theorem ok:OK 57 aH:=(eI E aE (aA iD.ok (aA fL.ok aD)) func57).aYU rfl spec
end jU
namespace aRC
def E:=mE [(148,lZ.aH)] 22 [] [] []
def aE:=bd f178
theorem aU:Nk E aE:=nk
theorem start a d b c:aF E f178 aE [D.agg [sc (bool a),ints u64 d],D.s (sc (int i64 b)),D.s (sc (bool c))]=letI A:=wv (a,d)/(↑((2:Nat)^b.toNat):Int);aB c none (aQ (kA (a,d)/\0<=b/\b<4611686018427387904) (some [D.agg [sc (bool (isNeg A)),ints u64 (M6.dg A.natAbs)]])):=eJ aU
def sp(x:Bool×List Int)(n:Int)(up:Bool):Prop×List D:=(kA x/\(0<=n/\n<4611686018427387904)/\up=false,[wD (wv x/((2^n.toNat:Nat):Int))])
theorem spec:tL E f178 aE wB (pN .i64) pB sp:=by
 rintro x n up ⟨h1,h2,rfl⟩;refine(start x.1 x.2 n false).trans ?_;rw[bF,gP ⟨h1,h2⟩];rfl
def aH:dC:=orc3 wB (pN .i64) pB sp
theorem ok:OK 178 aH:=(eI E aE (aA lZ.ok aD) func178).Bp rfl spec
end aRC
namespace nT
def E:=mE [(61,lB.aH),(68,kQ.aH),(69,Bn.aH),(127,uG.aH),(178,aRC.aH),(63,iK.aH)] 49 [46] [(5,[1,2,3,6]),(8,[1,2,3,6,8])] [5,8]
def aE:=bd f130
theorem aU:Nk E aE:=nk
def J5 a b c d e f g:=lD E f130 aE 5 [bR a,Lv b,dG 2 29 [cG c,eM d,cP e],dG 3 29 [cG f,sc (slice none 0 0),cP g]]
def J8 a b c d e f g h:=lD E f130 aE 8 [bR a,Lv b,dG 2 29 [cG c,eM d,cP e],dG 3 29 [cG f,sc (slice none 0 0),cP g],bR h]
theorem start a d e b c:aF E f130 aE [D.agg [sc (bool a),ints u64 d,sc (int i64 e)],D.s (sc (int i64 b)),D.s (sc (bool c))]=letI A:=aQ (d.length<=1099511627776) (some [D.agg [sc (bool a),ints u64 d,sc (int i64 e)],D.s (sc (int i64 0))]);aQ (aJ (a,d,e)) (aQ True (aB ((d.length:Int)==(0:Int)) A (aB (decide (b<=e)) A (nT.J5 b c a d e false 0)))):=eJ aU
theorem It a b c d e f g:J5 a b c d e f g=letI A:=(↑(bl (M6.val d)):Int);aQ (M6.cB d/\d.length<=1099511627776) (aB (decide (a<i64.wrap (e+i64.wrap (A+(1:Int))))) (nT.J8 a b c d e f g (i64.wrap (a-e))) (nT.J8 a b c d e f g (i64.wrap (A+(1:Int))))):=cJ aU
theorem vW a b c d e f g h:J8 a b c d e f g h=letI C:=wv (c,d)/(↑((2:Nat)^h.toNat):Int);letI A:=(isNeg C,M6.dg C.natAbs);letI B:=bif fN (wv A) a then aK (wv A) a else((0:Int),(0:Int));aQ (kA (c,d)/\(0<=h/\h<4611686018427387904)/\b=false) (aQ (kA A/\(-9223372036854775808:Int)<=a/\a<9223372036854775808) (some [D.agg [sc (bool (isNeg B.fst)),ints u64 (M6.dg B.fst.natAbs),sc (int i64 B.snd)],D.s (sc (int i64 (bif fN (wv A) a then(0:Int)else(5:Int))))])):=cJ aU
def xC(p:Int×Int)(b:Int):Int×Int:=if p.1=0\/b<=p.2 then p else aK (p.1/((2^(b-p.2).toNat:Nat):Int)) b
def qC(p:Int×Int)(b:Int):Bool:=decide (p.1=0\/b<=p.2)||fN (p.1/((2^(b-p.2).toNat:Nat):Int)) b
def sp(x:dU)(b:Int)(up:Bool):Prop×List D:=(aJ x/\(-4611686018427387904<=b/\b<4611686018427387904)/\up=false,dE (qC (dv x) b) (xC (dv x) b))
theorem spec:tL E f130 aE hZ (pN .i64) pB sp:=by
 rintro x k up ⟨h,hk,rfl⟩;refine(start x.1 x.2.1 x.2.2 k false).trans ?_;have hl:=h.len;have hd:=h.dD;have hr:=h.2.1;have hb:=h.Dr.bl;have hw:=h.Dr;have hn:=h.Iz;obtain⟨b,a,e⟩:=x
 try dsimp only at *
 unfold sp
 try dsimp only
 have hz:=M6.cS hn;have ha:=iZ (b,a)
 try dsimp only at ha hz
 rw[gP h,gP trivial];have same:((dv (b,a,e)).1=0\/k<=(dv (b,a,e)).2)->dE (qC (dv (b,a,e)) k) (xC (dv (b,a,e)) k)=[D.agg [.sc (.bool b),.ints .u64 a,.sc (.int .i64 e)],.s (.sc (.int .i64 0))]:=by
  intro hc;unfold qC xC;rw[decide_eq_true hc,bSM,if_pos hc];show [M.dD (dv (b,a,e)),_]=_;rw[hd];rfl
 by_cases h0:a.length=0
 ·rw[cF,gP,same (.inl (by have:=hz.1 h0;show wv (b,a)=0;omega))]
 ·rw[bS]
  by_cases h1:k<=e
  ·rw[aO h1,gP,same (.inr h1)]
  ·have Zn:wv (b,a)≠0:=by have:M6.val a≠0:=fun h=>h0 (hz.2 h);omega
   have vY:¬((dv (b,a,e)).1=0\/k<=(dv (b,a,e)).2):=by
    rintro (hc |hc)
    ·exact Zn hc
    ·exact h1 hc
   have j8:∀n:Int,0<=n->n<4611686018427387904->wv (b,a)/((2^n.toNat:Nat):Int)=wv (b,a)/((2^(k-e).toNat:Nat):Int)->J8 k false b a e false 0 n=some (dE (qC (dv (b,a,e)) k) (xC (dv (b,a,e)) k)):=by
    intro n Eo aBI he;have hq:bl (wv (b,a)/((2^(k-e).toNat:Nat):Int)).natAbs<=524288:=bNX (gU (Aw (bQA (by decide)))) (by rw[ha];exact hb);rw[vW,gP ⟨hw,⟨Eo,aBI⟩,rfl⟩,he,gP ⟨mR hq,by omega,by omega⟩,rT];unfold qC xC;rw[decide_eq_false vY,bPC,if_neg vY];rfl
   rw[aI h1,It,gP ⟨hn.iX,by omega⟩,wrap_i64 (n:=(bl (M6.val a):Int)+1) (by omega) (by omega),wrap_i64 (n:=e+((bl (M6.val a):Int)+1)) (by omega) (by omega),wrap_i64 (n:=k-e)]
   by_cases h2:k<e+((bl (M6.val a):Int)+1)
   ·rw[aO h2,j8 _ (by omega) (by omega) rfl]
   ·rw[aI h2,j8 _ (by omega) (by omega) (bMG (by rw[ha];omega) (by rw[ha];omega))]
def aH:dC:=orc3 hZ (pN .i64) pB sp
theorem ok:OK 130 aH:=(eI E aE (aA lB.ok (aA kQ.ok (aA Bn.ok (aA uG.ok (aA aRC.ok (aA iK.ok aD)))))) func130).Bp rfl spec
end nT
end W
namespace M
open Go AI W
theorem aAC{z e b:Int}(h:e<=b):nT.xC (aK z e) b=aK (z/p2 (b-e)) b:=by
 unfold nT.xC
 by_cases hz:z=0
 ·subst hz;rw[dO,if_pos (.inl rfl),Int.zero_ediv,dO]
 ·obtain⟨h1,h2⟩:=jK (e:=e) hz;have hn:(aK z e).1≠0:=fun h=>hz (dT.1 h)
  by_cases hb:b<=(aK z e).2
  ·rw[if_pos (.inr hb)];have g:=rL (e:=e) hz (Int.le_refl e);rw[Int.sub_self,Xd,Int.mul_one]at g;have e1:p2 ((aK z e).2-e)=p2 ((aK z e).2-b)*p2 (b-e):=by rw[<-pV (by omega) (by omega)];congr 1;omega
   rw[e1,<-Int.mul_assoc]at g;have hp:=Gr (b-e);have:z/p2 (b-e)=(aK z e).1*p2 ((aK z e).2-b):=by
    generalize aK z e=p at *;rw[<-g,Int.mul_ediv_cancel _ (by omega)]
   rw[this,uU _ _ (by omega),show b+((aK z e).2-b)=(aK z e).2 by omega,oL uT Al]
  ·rw[aX];have e1:p2 (b-e)=p2 (b-(aK z e).2)*p2 (tz z.natAbs:Int):=by rw[<-pV (by omega) (by omega)];congr 1;omega
   rw[e1];have hp:=Gr (tz z.natAbs:Int);have:z/(p2 (b-(aK z e).2)*p2 (tz z.natAbs:Int))=(aK z e).1/p2 (b-(aK z e).2):=by
    generalize aK z e=p at *;generalize p2 (tz z.natAbs:Int)=q at *;rw[h1,cBA _ _ hp]
   rw[this];rfl
theorem Um{z e b:Int}(_:e<=b)(hb0:-1048576<=b)(hb:b+((bl (z/p2 (b-e)).natAbs:Nat):Int)<=1048577):nT.qC (aK z e) b=true:=by
 unfold nT.qC
 by_cases hc:(aK z e).1=0\/b<=(aK z e).2
 ·rw[decide_eq_true hc,bSM]
 ·have hz:z≠0:=fun h=>hc (.inl (dT.2 h))
  obtain⟨h1,h2⟩:=jK (e:=e) hz;have e1:p2 (b-e)=p2 (b-(aK z e).2)*p2 (tz z.natAbs:Int):=by rw[<-pV (by omega) (by omega)];congr 1;omega
  have hp:=Gr (tz z.natAbs:Int);have:z/p2 (b-e)=(aK z e).1/p2 (b-(aK z e).2):=by
   rw[e1];generalize aK z e=p at *;generalize p2 (tz z.natAbs:Int)=q at *;rw[h1,cBA _ _ hp]
  rw[this]at hb;rw[decide_eq_false hc,bPC];exact fP hb0 hb
end M
namespace W
open Go AI M
namespace Sg
def E:=mE [(64,aHM.aH),(63,iK.aH)] 15 [] [] []
def aE:=bd f76
theorem aU:Nk E aE:=nk
theorem start a b:aF E f76 aE [D.s (sc (int i64 a)),D.s (sc (int i64 b))]=letI B:=(isNeg a,M6.dg a.natAbs);letI A:=bif fN (wv B) b then aK (wv B) b else((0:Int),(0:Int));aQ ((-9223372036854775808:Int)<=a/\a<9223372036854775808) (aQ (kA B/\(-9223372036854775808:Int)<=b/\b<9223372036854775808) (some [D.agg [sc (bool (isNeg A.fst)),ints u64 (M6.dg A.fst.natAbs),sc (int i64 A.snd)]])):=eJ aU
def sp(m e:Int):Prop×List D:=((-9223372036854775808<=m/\m<9223372036854775808)/\-9223372036854775808<=e/\e<9223372036854775808,[dD (bif fN m e then aK m e else(0,0))])
theorem spec:fO E f76 aE (pN .i64) (pN .i64) sp:=by
 rintro m e ⟨h1,h2⟩;refine(start m e).trans ?_;have hb:bl m.natAbs<=64:=dV.2 (by omega);rw[gP h1,gP ⟨mR (by omega),h2⟩,rT];rfl
def aH:dC:=orc2 (pN .i64) (pN .i64) sp
theorem ok:OK 76 aH:=(eI E aE (aA aHM.ok (aA iK.ok aD)) func76).lP rfl spec
end Sg
namespace Pb
def E:=mE [(130,nT.aH)] 11 [8] [] []
def aE:=bd f77
theorem aU:Nk E aE:=nk
theorem start a c d b:aF E f77 aE [D.agg [sc (bool a),ints u64 c,sc (int i64 d)],D.s (sc (int i64 b))]=letI B:=dv (a,c,d);letI A:=bif nT.qC B b then nT.xC B b else((0:Int),(0:Int));aQ (aJ (a,c,d)/\((-4611686018427387904:Int)<=b/\b<4611686018427387904)/\false=false) (some [D.agg [sc (bool (isNeg A.fst)),ints u64 (M6.dg A.fst.natAbs),sc (int i64 A.snd)],D.s (sc (int i64 (bif nT.qC B b then(0:Int)else(5:Int))))]):=eJ aU
def sp(x:dU)(b:Int):Prop×List D:=(aJ x/\-4611686018427387904<=b/\b<4611686018427387904,dE (nT.qC (dv x) b) (nT.xC (dv x) b))
theorem spec:fO E f77 aE hZ (pN .i64) sp:=fun x b h =>
 (start x.1 x.2.1 x.2.2 b).trans (gP ⟨h.1,h.2,rfl⟩)
def aH:dC:=orc2 hZ (pN .i64) sp
theorem ok:OK 77 aH:=(eI E aE (aA nT.ok aD) func77).lP rfl spec
end Pb
namespace Se
def E:=mE [(64,aHM.aH),(131,aLK.aH),(132,zP.aH)] 19 [15] [] []
def aE:=bd f79
theorem aU:Nk E aE:=nk
theorem start a b:aF E f79 aE [D.agg [sc (bool a),ints u64 b]]=letI B:=(isNeg 4,M6.dg 4);letI A:=(isNeg (wv (a,b)%wv B),M6.dg (wv (a,b)%wv B).natAbs);aQ ((-9223372036854775808:Int)<=(4:Int)/\(4:Int)<(9223372036854775808:Int)) (aQ (kA (a,b)/\kA B/\isNeg 4=false/\1<=(M6.dg 4).length) (aQ (kA A) (some [D.s (sc (int i64 (bif zP.uO (wv A)then wv A else(0:Int))))]))):=eJ aU
def sp(x:Bool×List Int):Prop×List D:=(kA x,[.s (.sc (.int .i64 (wv x%4)))])
theorem spec:gO E f79 aE wB sp:=by
 intro x h;have h:kA x:=h;have e4:wv (isNeg 4,M6.dg 4)=4:=rT 4;have w4:kA (isNeg 4,M6.dg 4):=mR (z:=4) (bNX (dV.2 (show(4:Int).natAbs<2^3 by decide)) (by omega));have l4:(M6.dg 4).length=1:=by
  have h1:=M6.cR (n:=4) (k:=1) (by decide);have h2:(M6.dg 4).length≠0:=fun h=>by have:=M6.fZ.1 h;omega
  omega
 have hr:0<=wv x%4/\wv x%4<4:=by omega
 refine(start x.1 x.2).trans ?_;rw[gP,gP ⟨h,w4,rfl,Nat.le_of_eq l4.symm⟩,e4,rT];show aQ _ _=some [D.s (.sc (.int .i64 (wv x%4)))];generalize wv (x.1,x.2)%4=r at *;rw[gP (mR (bNX (dV.2 (show r.natAbs<2^3 by omega)) (by omega)))];have:zP.uO r=true:=by unfold zP.uO;rw[decide_eq_true (by omega),decide_eq_true (by omega)];rfl
 rw[this];rfl
def aH:dC:=orc1 wB sp
theorem ok:OK 79 aH:=(eI E aE (aA aHM.ok (aA aLK.ok (aA zP.ok aD))) func79).nD rfl spec
end Se
end W
end Go.Proofs.YtcnlagnipklcmaaGreatDoor
end
