/- Contracts of functions and laws, for the claim on TurnPeriod. -/
import Derived.Test.YtplagoepbghhpaaGreatDoorBTurnPeriod3
set_option linter.unusedVariables false
set_option linter.unusedSimpArgs false
set_option exponentiation.threshold 10000000
noncomputable section
open Go.IntKind(i8 i16 i32 i64 u8 u16 u32 u64)
open Go.Proofs.Tryz
open Rat renaming le_of_lt->bQY,le_refl->bSF,intCast_natCast->bWJ,natCast_add->bWD,le_trans->bQW,intCast_neg->bWR,mul_pos->bRK,mul_assoc->bXA,mul_comm->bYJ,natCast_mul->bSR,intCast_mul->bWL,intCast_add->bXM,mul_le_mul_of_nonneg_right->bZI
open Nat renaming le_trans->bMN,pow_succ->bQQ,pow_pos->bOQ,pow_add->bQS,zero_le->bRU,pow_le_pow_right->bOR,div_le_self->bUE,le_refl->bLR,sub_le->bSP,lt_of_lt_of_le->bMR,add_comm->bRS,add_zero->bMS,mod_lt->bNZ,zero_add->bLT,testBit_two_pow->bZD,zero_div->bVL,div_div_eq_div_mul->bRI,mul_assoc->bQU,lt_of_le_of_lt->bSG,div_add_mod->bQX,mul_le_mul_left->bOF,eq_of_testBit_eq->bYC,pow_lt_pow_right->bSK,testBit_and->bXZ,testBit_lt_two_pow->bZE,mul_le_mul->bWF,mul_le_mul_right->bNE
open Int renaming toNat_natCast->bPN,eq_ofNat_of_zero_le->bQT,toNat->bZC,natAbs_natCast->bRJ,natAbs_neg->bSL,mul_assoc->bSE,natAbs->bVT,natCast_mul->bRP,mul_one->bYY,natCast_nonneg->bVK,natCast_add->bZH,mul_ediv_add_emod->bUU,emod_nonneg->bUV,emod_lt_of_pos->bUW,mul_ediv_mul_of_pos_left->bZL
open Bool renaming not_true->bNR,true_or->bRB,false_or->bNS,or_true->bRQ,true_and->bOS,false_and->bRA,and_false->bRD,and_eq_false_iff->bYB,and_eq_true->bLX
open List renaming replicate->bNU
open Option renaming bind_eq_some_iff->bNY
namespace Go.Proofs.YtplagoepbghhpaaGreatDoor
open Go.Value(int bool slice)
open AI.S(sc ints)
namespace W
open Go AI M
namespace eK
def E:=mE [(202,Ib.aG),(203,Bl.aG),(163,aQN.aG),(162,Iv.aG),(50,iJ.aG),(51,aGP.aG),(59,Vf.aG),(204,Cz.aG),(205,aQ.aG),(206,bB.aG)] 92 [] [] []
def aE:=bd f157
theorem aW:Nk E aE:=nk
theorem start a c d b:aF E f157 aE [D.agg [sc (bool a),ints u64 c,sc (int i64 d)],D.s (sc (int i64 b))]=letI F1:=wv (isNeg 1,M6.dg (bVT 1));letI B1:=aK 0 0;letI I1:=M6.dg B1.fst.natAbs;letI A1:=dv (false,c,d);letI X:=aL (false,c,d)/\1<=i64.wrap (b+32)/\i64.wrap (b+32)<=70000;letI W:=dv (a,c,d);letI U:=i64.wrap (b+32);letI B:=bV.mA true A1.fst A1.snd U;letI O:=bif fR B.fst B.snd then aK B.fst B.snd else((0:Int),(0:Int));letI A:=bV.mA false A1.fst A1.snd U;letI P:=bif fR A.fst A.snd then aK A.fst A.snd else((0:Int),(0:Int));aB ((c.length:Int)==(0:Int)) (aP ((-1000000:Int)<=(0:Int)/\(0:Int)<=(1000000:Int)) (aC (isNeg B1.fst) fun e=>aC I1 fun f=>aC B1.snd fun g=>aC (isNeg B1.fst) fun h=>aC I1 fun i=>aC B1.snd fun j=>some [D.agg [sc (bool e),ints u64 f,sc (int i64 g),sc (bool h),ints u64 i,sc (int i64 j)]])) (aP (aL (a,c,d)) (aC (if W.fst=0 then(0:Int)else d+(↑(bl (M6.val c)):Int)-(1:Int)) fun k=>letI Y:=i64.wrap (k-b)-3;letI C:=bif fR F1 (i64.wrap Y)then aK F1 (i64.wrap Y)else((0:Int),(0:Int));aB (decide (i64.wrap (i64.wrap ((2:Int)*k)+8)<i64.wrap ((0:Int)-b))) (aP X (aC (isNeg O.fst) fun l=>aC (M6.dg O.fst.natAbs) fun m=>aC O.snd fun n=>aP X (aC (isNeg P.fst) fun o=>aC (M6.dg P.fst.natAbs) fun p=>aC P.snd fun q=>aP ((-9223372036854775808:Int)<=(1:Int)/\(1:Int)<(9223372036854775808:Int)) (aP (jK (isNeg 1,M6.dg 1)/\(-9223372036854775808:Int)<=i64.wrap Y/\i64.wrap Y<9223372036854775808) (aC (isNeg C.fst) fun r=>aC (M6.dg C.fst.natAbs) fun s=>aC C.snd fun t=>letI G1:=dv (r,s,t);letI F:=bif bJ.iV (dv (o,p,q)) (-G1.fst,G1.snd)then bJ.mL (dv (o,p,q)) (-G1.fst,G1.snd)else((0:Int),(0:Int));aP (aL (o,p,q)/\aL (r,s,t)) (aC (isNeg F.fst) fun u=>aC (M6.dg F.fst.natAbs) fun v=>aC F.snd fun w=>letI Z:=(u,v,w,l,m,n);letI K:=bif a then iT.uM (dv (gN Z))else dv (gO Z);letI I:=bif a then iT.uM (dv (gO Z))else dv (gN Z);aP (eG Z) (aC (isNeg I.fst) fun x=>aC (M6.dg I.fst.natAbs) fun y=>aC I.snd fun z=>aC (isNeg K.fst) fun aa=>aC (M6.dg K.fst.natAbs) fun ab=>aC K.snd fun ac=>some [D.agg [sc (bool x),ints u64 y,sc (int i64 z),sc (bool aa),ints u64 ab,sc (int i64 ac)]]))))))) (aP (aL (a,c,d)/\(1<=b/\b<=70000)/\((-70000:Int)<=aQ.gM W/\aQ.gM W<=100)/\aQ.bU W b<=(2:Nat)^(aQ.w1 W b).toNat) (aC (M6.dg (aQ.yM W b).fst) fun ad=>letI K1:=M6.val ad;aC (M6.dg ((2:Nat)^((2:Nat)*aQ.hv W b+22))) fun ae=>letI N1:=M6.val ae;aC (aQ.w2 W b) fun af=>letI D1:=bB.yR K1 N1 af;letI C1:=bB.Ek K1 N1 af;letI N:=M.shD false C1 U;letI G:=M.shD true D1 U;letI H1:=bB.uW G;aP (M6.cD ad/\M6.cD ae/\bl K1<=500000/\bl N1<=500000/\(0<=af/\af<=500000)/\(1<=i64.wrap (b+32)/\i64.wrap (b+32)<=70000)/\vW false C1 U=true/\vW true D1 U=true/\iL G) (aC (isNeg N.fst) fun ag=>aC (M6.dg N.fst.natAbs) fun ah=>aC N.snd fun ai=>aC (isNeg H1.fst) fun aj=>aC (M6.dg H1.fst.natAbs) fun ak=>aC H1.snd fun al=>letI H:=(ag,ah,ai,aj,ak,al);letI T:=bif a then iT.uM (dv (gN H))else dv (gO H);letI Q:=bif a then iT.uM (dv (gO H))else dv (gN H);aP (eG H) (aC (isNeg Q.fst) fun am=>aC (M6.dg Q.fst.natAbs) fun an=>aC Q.snd fun ao=>aC (isNeg T.fst) fun ap=>aC (M6.dg T.fst.natAbs) fun aq=>aC T.snd fun ar=>some [D.agg [sc (bool am),ints u64 an,sc (int i64 ao),sc (bool ap),ints u64 aq,sc (int i64 ar)]])))))):=eJ aW
def qJ(x:Int×Int)(p:Int):Int×Int:=if 2*aQ.gM x+8 < -p then bJ.mL (shD false ((x.1.natAbs:Int),x.2) (p+32)) (-1,aQ.gM x-p-3)else shD false (bB.Ek (aQ.yM x p).1 (2^(2*aQ.hv x p+22)) (aQ.w2 x p)) (p+32)
def pK(x:Int×Int)(p:Int):Int×Int:=if 2*aQ.gM x+8 < -p then shD true ((x.1.natAbs:Int),x.2) (p+32)else bB.uW (shD true (bB.yR (aQ.yM x p).1 (2^(2*aQ.hv x p+22)) (aQ.w2 x p)) (p+32))
def Ma(x:Int×Int)(p:Int):Int×Int:=if x.1=0 then(0,0)else bif isNeg x.1 then iT.uM (pK x p)else qJ x p
def Mb(x:Int×Int)(p:Int):Int×Int:=if x.1=0 then(0,0)else bif isNeg x.1 then iT.uM (qJ x p)else pK x p
def aIJ(x:dR)(p:Int):Prop:=aL x/\(1<=p/\p<=67100)/\((dv x).1≠0->-600000<=aQ.gM (dv x)/\iL (qJ (dv x) p)/\iL (pK (dv x) p)/\cR (qJ (dv x) p) (pK (dv x) p)<=0 /\
 (2*aQ.gM (dv x)+8 < -p->vW true ((((dv x).1.natAbs:Nat):Int),(dv x).2) (p+32)=true/\vW false ((((dv x).1.natAbs:Nat):Int),(dv x).2) (p+32)=true/\iL (shD false ((((dv x).1.natAbs:Nat):Int),(dv x).2) (p+32))/\bJ.iV (shD false ((((dv x).1.natAbs:Nat):Int),(dv x).2) (p+32)) (-1,aQ.gM (dv x)-p-3)=true) /\
 (¬2*aQ.gM (dv x)+8 < -p->bD.Nr (dv x) p/\bD.aGD (aQ.yM (dv x) p).1 (2^(2*aQ.hv (dv x) p+22)) (aQ.w2 (dv x) p) (p+32)))
def sp(x:dR)(p:Int):Prop×List D:=(aIJ x p,
 [yE (Ma (dv x) p) (Mb (dv x) p)])
theorem spec:fK E f157 aE gZ (pN .i64) sp:=by
 rintro x p ⟨hx,⟨p0,p1⟩,h⟩;refine(start x.1 x.2.1 x.2.2 p).trans ?_;have hz:=M6.cO hx.Fg;have he:=hx.2.1;have ha:(dv x).1.natAbs=M6.val x.2.1:=iO (x.1,x.2.1);have aST:(x.1,x.2.1,x.2.2)=x:=rfl;have n0:aK 0 0=(0,0):=cZ 0;have hT:(if(dv x).1=0 then 0 else x.2.2+(bl (M6.val x.2.1):Int)-1)=aQ.gM (dv x):=by rw[<-ha];rfl
 have hN:isNeg (dv x).1=x.1:=hx.Dh.cells.1;have v1:wv (isNeg 1,M6.dg (bVT 1))=1:=rD 1;have k1:jK (isNeg 1,M6.dg 1):=mP (z:=1) (by decide +kernel);unfold sp Ma Mb;dsimp only
 by_cases c0:(dv x).1=0
 ·rw[cC (by have:=hz.2 (by omega);omega),gP ⟨by decide,by decide⟩,if_pos c0,if_pos c0];simp only[aM,n0];rfl
 ·obtain⟨t0,q1,q2,q3,hA,hB⟩:=h c0;have tt:=hx.uK.top;have l0:x.2.1.length≠0:=fun hc=>c0 (by have:=hz.1 hc;omega)
  have tU:aQ.gM (dv x)<=1572864:=by unfold aQ.gM;rw[if_neg c0];exact tt.2
  simp only[aST,hT,aM,v1];rw[bP,if_neg c0,if_neg c0];have w1:i64.wrap (i64.wrap (2*aQ.gM (dv x))+8)=2*aQ.gM (dv x)+8:=by rw[wrap_i64 (n:=2*aQ.gM (dv x)),wrap_i64]
  have w2:i64.wrap (0-p)=-p:=by rw[wrap_i64];omega
  have w3:i64.wrap (i64.wrap (aQ.gM (dv x)-p)-3)=aQ.gM (dv x)-p-3:=by rw[wrap_i64 (n:=aQ.gM (dv x)-p),wrap_i64]
  have w4:i64.wrap (p+32)=p+32:=wrap_i64;simp only[w1,w2,w3,w4];rw[gP hx];have sk:eG (mD (qJ (dv x) p) (pK (dv x) p)):=uG q1 q2 q3;have eL:=qB (qJ (dv x) p) (pK (dv x) p);have eH:=qC (qJ (dv x) p) (pK (dv x) p);rw[hN];unfold mD at sk eL eH
  by_cases c1:2*aQ.gM (dv x)+8 < -p
  ·obtain⟨s1,s2,s3,s4⟩:=hA c1;have ok:aL (false,x.2.1,x.2.2):=⟨⟨hx.1.1,fun hf=>(by cases hf),hx.1.len⟩,hx.2⟩;have vx:dv (false,x.2.1,x.2.2)=((((dv x).1.natAbs:Nat):Int),(dv x).2):=by rw[ha];rfl
   have b1:bl (bVT 1)=1:=rfl;have i1:fR 1 (aQ.gM (dv x)-p-3)=true:=fJ (by omega) (by rw[b1];omega);have m1:aK 1 (aQ.gM (dv x)-p-3)=(1,aQ.gM (dv x)-p-3):=by
    unfold aK;rw[if_neg (by decide),show tz (bVT 1)=0 from by decide +kernel];simp
   have pg:iL (1,aQ.gM (dv x)-p-3):=m1▸fF i1 (by decide +kernel);have e2:=cU ((1,aQ.gM (dv x)-p-3):Int×Int);have d2:=cF pg;have d3:=cF s3;have e3:=cU (shD false ((((dv x).1.natAbs:Nat):Int),(dv x).2) (p+32));have bGH:fR (bV.mA true (((dv x).1.natAbs:Nat):Int) (dv x).2 (p+32)).1 (bV.mA true (((dv x).1.natAbs:Nat):Int) (dv x).2 (p+32)).2=true:=s1;have bGG:fR (bV.mA false (((dv x).1.natAbs:Nat):Int) (dv x).2 (p+32)).1 (bV.mA false (((dv x).1.natAbs:Nat):Int) (dv x).2 (p+32)).2=true:=s2;have u1:aK (bV.mA true (((dv x).1.natAbs:Nat):Int) (dv x).2 (p+32)).1 (bV.mA true (((dv x).1.natAbs:Nat):Int) (dv x).2 (p+32)).2=shD true ((((dv x).1.natAbs:Nat):Int),(dv x).2) (p+32):=rfl;have u2:aK (bV.mA false (((dv x).1.natAbs:Nat):Int) (dv x).2 (p+32)).1 (bV.mA false (((dv x).1.natAbs:Nat):Int) (dv x).2 (p+32)).2=shD false ((((dv x).1.natAbs:Nat):Int),(dv x).2) (p+32):=rfl;have dL:qJ (dv x) p=bJ.mL (shD false ((((dv x).1.natAbs:Nat):Int),(dv x).2) (p+32)) (-1,aQ.gM (dv x)-p-3):=if_pos c1;have dH:pK (dv x) p=shD true ((((dv x).1.natAbs:Nat):Int),(dv x).2) (p+32):=if_pos c1;rw[aO c1];simp only[vx,bGH,bGG,u1,u2,i1,m1,cond_true,e2,e3,s4];rw[gP ⟨ok,by omega,by omega⟩,gP ⟨ok,by omega,by omega⟩,gP ⟨by decide,by decide⟩,gP ⟨k1,by omega,by omega⟩,gP ⟨d3,d2⟩,<-dL,<-dH,gP sk,eL,eH];rfl
  ·obtain⟨⟨b1,b2⟩,a1,a2,a3,a4,a5,a6⟩:=hB c1;have dL:qJ (dv x) p=shD false (bB.Ek (aQ.yM (dv x) p).1 (2^(2*aQ.hv (dv x) p+22)) (aQ.w2 (dv x) p)) (p+32):=if_neg c1;have dH:pK (dv x) p=bB.uW (shD true (bB.yR (aQ.yM (dv x) p).1 (2^(2*aQ.hv (dv x) p+22)) (aQ.w2 (dv x) p)) (p+32)):=if_neg c1;rw[aI c1];simp only[M6.bN];rw[gP ⟨hx,⟨by omega,by omega⟩,b1,b2⟩,gP ⟨M6.aX _,M6.aX _,a1,a2,a3,⟨by omega,by omega⟩,a4,a5,a6⟩,<-dL,<-dH,gP sk,eL,eH];rfl
def aG:cX:=orc2 gZ (pN .i64) sp
theorem ok:OK 157 aG:=(eB E aE (aA Ib.ok (aA Bl.ok (aA aQN.ok (aA Iv.ok (aA iJ.ok (aA aGP.ok (aA Vf.ok (aA Cz.ok (aA aQ.ok (aA bB.ok aD)))))))))) func157).lE rfl spec
end eK
end W
namespace R
def bCF(x:Rat):Prop:=∃m e:Int,0<m/\m<9007199254740992/\-53<=e/\e<=971/\(x=(m:Rat)*pz e\/x=-((m:Rat)*pz e))
def aGM(x:Rat)(k:Int):Prop:=ab (x-(k:Rat)*(pi/2))<=pi/4+1/36893488147419103232
def Fit(x:Rat):Prop:=bCF x\/ab x<=3/4
theorem Wt{x:Rat}{k:Int}(h:aGM x k):ab (x-(k:Rat)*(pi/2))<=79/100:=by
 obtain⟨p1,p2⟩:=rJ;unfold aGM at h;grind
theorem aFN(r:Rat):cs (ab r)=cs r:=by
 unfold ab;split
 ·rfl
 ·rw[Ud]
theorem aNC{r:Rat}(h:ab r<=1):sn (ab r)=ab (sn r):=by
 by_cases h0:0<=r
 ·rw[bS h0]at *;rw[bS (Gc h0 h)]
 ·have e:ab r=-r:=by unfold ab;rw[if_neg h0]
  rw[e]at h;rw[e,<-gT (sn r),<-yV,bS (Gc (by grind) h)]
theorem Xt{r:Rat}(h:ab r<=4/5):17/25<=cs r/\cs r<=1:=by
 have h0:=aT r;obtain⟨c1,c2⟩:=Ra h0 (by grind);have m:=cT h0 h h0 h;have m2:=aH h0 h0;have m3:=aH m2 (show 0<=6-ab r*ab r by grind);rw[aFN]at c1 c2;generalize ab r=a at *;constructor <;> grind
theorem aCB{r:Rat}(h0:0<=r)(h:r<=4/5):4/5*r<=sn r/\sn r<=r:=by
 have h1:r<=1:=by grind
 refine⟨?_,Vw h0 h1⟩;have c1:=(zY h0 h1).1;have m:=cT h0 h h0 h;have m3:=aH h0 (show 0<=16/25-r*r by grind);grind
theorem aLJ{a b:Int}(h:a<b):pz a<pz b:=by
 have h1:=dO (show a+1<=b by omega);have h2:=dT a;rw[hI]at h1;grind
theorem Yn{a b:Int}:pz a<=pz b↔a<=b:=by
 constructor
 ·intro h;refine Int.not_lt.1 fun hn=>?_
  have:=aLJ hn;grind
 ·exact dO
theorem xQ{a b:Int}:pz a<pz b↔a<b:=by
 constructor
 ·intro h;refine Int.not_le.1 fun hn=>?_
  have:=dO hn;grind
 ·exact aLJ
theorem aNK:pz 1=2:=by rw[show(1:Int)=0+1 by rfl,hI,fB];grind
theorem nD(a:Int):pz (a-1)*2=pz a:=by
 have:=hI (a-1);rw[show a-1+1=a by omega]at this;grind
theorem fZ(a:Int){n:Nat}{c:Rat}(hc:((2^n:Nat):Rat)=c):pz (a-(n:Int))*c=pz a:=by
 have:=dU (a-(n:Int)) n;rw[show a-(n:Int)+(n:Int)=a by omega,hc]at this;exact this.symm
end R
namespace R
open W.TSums
theorem Fy{f:Nat->Rat}:∀{n:Nat},(∀k,k<n->f k=0)->sum f n=0
 |0,_=>rfl
 |n+1,h=>by rw[cY,Fy fun k hk=>h k (by omega),h n (by omega)];grind
theorem Kg(g:Nat->Rat)(k f:Nat):sum (fun i=>g (k+i)) (f+1)=g k+sum (fun i=>g (k+1+i)) f:=by
 rw[bRS f 1,iZ];have e:(fun i=>g (k+(1+i)))=fun i=>g (k+1+i):=funext fun i=>by rw[Nat.add_assoc]
 rw[e,cY];have z:sum (fun i=>g (k+i)) 0=0:=rfl;rw[z,bMS];grind
def gC(u W i:Nat):Rat:=cc i*(sq u W i:Rat)
def gS(u W i:Nat):Rat:=ss i*(sq u W i:Rat)
theorem zW{u W:Nat}(hu:u<=W):∀f k a b c d,c<=a->d<=b->(k%4=1\/k%4=2->c+sq u W k<=a)->(k%4=2\/k%4=3->d+sq u W k<=b) ->
  (tay u W f k a b c d).2.2.1<=(tay u W f k a b c d).1/\(tay u W f k a b c d).2.2.2<=(tay u W f k a b c d).2.1 /\
  ((tay u W f k a b c d).1:Rat)-((tay u W f k a b c d).2.2.1:Rat)=(a:Rat)-(c:Rat)+sum (fun i=>gC u W (k+i)) f /\
  ((tay u W f k a b c d).2.1:Rat)-((tay u W f k a b c d).2.2.2:Rat)=(b:Rat)-(d:Rat)+sum (fun i=>gS u W (k+i)) f
 |0,k,a,b,c,d,h1,h2,_,_=>by
  have z1:sum (fun i=>gC u W (k+i)) 0=0:=rfl;have z2:sum (fun i=>gS u W (k+i)) 0=0:=rfl;refine⟨h1,h2,?_,?_⟩
  ·show(a:Rat)-(c:Rat)=_;rw[z1];grind
  ·show(b:Rat)-(d:Rat)=_;rw[z2];grind
 |f+1,k,a,b,c,d,h1,h2,h3,h4=>by
  have hs:=Fz hu k;have hm:k%4<4:=bNZ _ (by decide);unfold tay
  by_cases hz:sq u W k=0
  ·have za:=Pd hz;rw[if_pos hz];have z1:sum (fun i=>gC u W (k+i)) (f+1)=0:=Fy fun i _=>by unfold gC;rw[za];simp
   have z2:sum (fun i=>gS u W (k+i)) (f+1)=0:=Fy fun i _=>by unfold gS;rw[za];simp
   rw[z1,z2];refine⟨h1,h2,?_,?_⟩
   ·show(a:Rat)-(c:Rat)=_;grind
   ·show(b:Rat)-(d:Rat)=_;grind
  ·rw[if_neg hz,Kg (gC u W) k f,Kg (gS u W) k f];have e4:(k+1)%4=(k%4+1)%4:=by omega
   by_cases c0:k%4=0
   ·rw[if_pos c0];obtain⟨r1,r2,r3,r4⟩:=zW hu f (k+1) (a+sq u W k) b c d (by omega) h2 (fun _=>by omega) (fun h=>by omega);refine⟨r1,r2,?_,?_⟩
    ·rw[r3,bWD];have:gC u W k=(sq u W k:Rat):=by unfold gC cc;rw[if_pos c0];grind
     rw[this];grind
    ·rw[r4];have:gS u W k=0:=by unfold gS ss;rw[aY,aY];grind
     rw[this];grind
   ·rw[if_neg c0]
    by_cases c1:k%4=1
    ·rw[if_pos c1];obtain⟨r1,r2,r3,r4⟩:=zW hu f (k+1) a (b+sq u W k) c d h1 (by omega) (fun _=>by have:=h3 (Or.inl c1);omega) (fun _=>by omega);refine⟨r1,r2,?_,?_⟩
     ·rw[r3];have:gC u W k=0:=by unfold gC cc;rw[if_neg c0,aY];grind
      rw[this];grind
     ·rw[r4,bWD];have:gS u W k=(sq u W k:Rat):=by unfold gS ss;rw[if_pos c1];grind
      rw[this];grind
    ·rw[if_neg c1]
     by_cases c2:k%4=2
     ·rw[if_pos c2];have g1:=h3 (Or.inr c2);have g2:=h4 (Or.inl c2);obtain⟨r1,r2,r3,r4⟩:=zW hu f (k+1) a b (c+sq u W k) d (by omega) h2 (fun h=>by omega) (fun _=>by omega);refine⟨r1,r2,?_,?_⟩
      ·rw[r3,bWD];have:gC u W k=-(sq u W k:Rat):=by unfold gC cc;rw[if_neg c0,if_pos c2];grind
       rw[this];grind
      ·rw[r4];have:gS u W k=0:=by unfold gS ss;rw[if_neg c1,aY];grind
       rw[this];grind
     ·rw[if_neg c2];have g2:=h4 (Or.inr (by omega));obtain⟨r1,r2,r3,r4⟩:=zW hu f (k+1) a b c (d+sq u W k) h1 (by omega) (fun h=>by omega) (fun h=>by omega);refine⟨r1,r2,?_,?_⟩
      ·rw[r3];have:gC u W k=0:=by unfold gC cc;rw[if_neg c0,if_neg c2];grind
       rw[this];grind
      ·rw[r4,bWD];have:gS u W k=-(sq u W k:Rat):=by unfold gS ss;rw[if_neg c1,aU];grind
       rw[this];grind
theorem Cs{x y:Nat}(h:y<=x):((x-y:Nat):Rat)=(x:Rat)-(y:Rat):=by
 have:((x-y:Nat):Rat)+(y:Rat)=(x:Rat):=by exact_mod_cast(show x-y+y=x by omega)
 grind
theorem aBW{u w:Nat}(hu:u<=2^w):(Yh u w:Rat)=sum (fun k=>ss k*(sq u (2^w) k:Rat)) (w+1)/\(Yi u w:Rat)=sum (fun k=>cc k*(sq u (2^w) k:Rat)) (w+1):=by
 obtain⟨r1,r2,r3,r4⟩:=zW hu (w+1) 0 0 0 0 0 (bLR _) (bLR _) (fun h=>by omega) (fun h=>by omega);unfold Yh Yi;rw[Cs r1,Cs r2,r3,r4];have z:((0:Nat):Rat)=0:=by norm_cast
 have e1:sum (fun i=>gC u (2^w) (0+i)) (w+1)=sum (fun k=>cc k*(sq u (2^w) k:Rat)) (w+1):=iK fun k _=>by rw[bLT];rfl
 have e2:sum (fun i=>gS u (2^w) (0+i)) (w+1)=sum (fun k=>ss k*(sq u (2^w) k:Rat)) (w+1):=iK fun k _=>by rw[bLT];rfl
 rw[e1,e2,z];constructor <;> grind
end R
namespace M
open Go AI W
theorem yQ(p:Int×Int):R.ab (R.qz p)=(p.1.natAbs:Rat)*R.pz p.2:=by
 unfold R.qz;rw[R.gQ,R.bS (bQY (R.dT p.2))];congr 1;unfold R.ab
 by_cases hz:0<=p.1
 ·rw[if_pos (by exact_mod_cast hz),<-bWJ];congr 1;omega
 ·rw[if_neg (by intro hc;exact hz (by exact_mod_cast hc)),<-bWJ,<-bWR];congr 1;omega
theorem Qh(w:Int)(hw:65<=w):∀f h:Nat,4<=h->(h=4\/16*(h:Int)-16<w)->THalvings.hlv w f h=4\/16*(THalvings.hlv w f h:Int)-16<w
 |0,h,_,hh=>hh
 |f+1,h,h4,hh=>by
  unfold THalvings.hlv;split
  ·rename_i hc;refine Qh w hw f (h+1) (by omega) (Or.inr ?_);have:4*(h:Int)*h>=4*4*h:=by
    have:=Int.mul_le_mul_of_nonneg_right (show(4*4:Int)<=4*h by omega) (show(0:Int)<=h by omega);omega
   omega
  ·exact hh
theorem Aw{x:Int×Int}{p:Int}(h0:x.1≠0)(h1:bC x<=0)(ht:-1200<=bC x)(hp:1<=p/\p<=67100) :
  aQ.gM x=bC x/\aQ.w0 x p=p+80-bC x/\4<=aQ.hv x p/\aQ.hv x p<=204/\(aQ.hv x p:Int)+50<=p+80-bC x/\aQ.w1 x p=p+80-bC x+2*(aQ.hv x p:Nat)/\aQ.w2 x p=p+80-bC x+3*(aQ.hv x p:Nat):=by
 have e1:aQ.gM x=bC x:=by unfold aQ.gM bC;rw[if_neg h0]
 have e2:aQ.w0 x p=p+80-bC x:=by
  unfold aQ.w0;rw[e1];split <;> omega
 obtain⟨h3,h4⟩:=aQ.Tn (aQ.w0 x p) 200 4;have h5:=Qh (aQ.w0 x p) (by omega) 200 4 (by omega) (Or.inl rfl);have eh:THalvings.hlv (aQ.w0 x p) 200 4=aQ.hv x p:=rfl;rw[eh]at h3 h4 h5;refine⟨e1,e2,h4,h3,?_,?_,?_⟩
 ·omega
 ·unfold aQ.w1;omega
 ·unfold aQ.w2 aQ.w1;omega
theorem aJU(x:Int×Int)(n:Int):(rW.aHS x n:Rat)<=R.pz n*R.ab (R.qz x)/\R.pz n*R.ab (R.qz x)<(rW.aHS x n:Rat)+1:=by
 rw[yQ];have e:R.pz n*((x.1.natAbs:Rat)*R.pz x.2)=(x.1.natAbs:Rat)*R.pz (x.2+n):=by rw[R.kB];grind
 rw[e];unfold rW.aHS;split
 ·rename_i h;obtain⟨k,hk⟩:=bQT h;rw[hk,R.oA,bPN,bSR];constructor <;> grind
 ·rename_i h;obtain⟨k,hk⟩:=bQT (show 0<=-(x.2+n) by omega);have hp:0<2^k:=bOQ (by decide);obtain⟨d1,d2⟩:=R.uN x.1.natAbs hp;rw[hk,bPN,show x.2+n=-(k:Int) by omega,R.yY];have h2:=R.Ts k;have h3:=R.wS k;have m1:=R.aH (bQY h3) (show 0<=(x.1.natAbs:Rat)-((2^k:Nat):Rat)*((x.1.natAbs/2^k:Nat):Rat) by grind);have m2:=bRK h3 (show 0<((2^k:Nat):Rat)*((x.1.natAbs/2^k:Nat):Rat)+((2^k:Nat):Rat)-(x.1.natAbs:Rat) by grind);generalize ((x.1.natAbs/2^k:Nat):Rat)=q at *;generalize ((2^k:Nat):Rat)=K at *;generalize (x.1.natAbs:Rat)=m at *;generalize R.hf k=g at *;have e1:g*(K*q)=q:=by rw[<-bXA,h2];grind
  constructor <;> grind
theorem Rg{x:Int×Int}{p:Int}(h0:x.1≠0)(hT:R.ab (R.qz x)<=1)(h1:bC x<=0)(ht:-1200<=bC x)(hp:1<=p/\p<=67100) :
  aQ.bU x p<=2^(aQ.w1 x p).toNat /\
  R.ab (((aQ.yM x p).1:Rat)-R.pz (aQ.w2 x p)*R.sn (R.ab (R.qz x)))<=R.pz (2*(aQ.hv x p:Nat)+18) /\
  R.ab (((aQ.yM x p).2:Rat)-R.pz (aQ.w2 x p)*R.cs (R.ab (R.qz x)))<=R.pz (2*(aQ.hv x p:Nat)+18):=by
 obtain⟨e1,e2,h4,h5,h6,bBR,bBQ⟩:=Aw h0 h1 ht hp;obtain⟨u1,u2⟩:=aJU x (aQ.w1 x p);have hT0:=R.aT (R.qz x);unfold aQ.yM;have eU:rW.aHS x (aQ.w1 x p)=aQ.bU x p:=rfl;rw[eU]at u1 u2;generalize aQ.bU x p=u at *;generalize aQ.hv x p=h at *;generalize R.ab (R.qz x)=T at *;obtain⟨n,hn⟩:=bQT (show 0<=aQ.w1 x p by omega);have aTU:aQ.w2 x p=((n+h:Nat):Int):=by omega
 rw[hn,R.oA]at u1 u2;rw[hn,aTU,R.oA,bPN,bPN];have hu:u<=2^n:=by
  have hW:(0:Rat)<=((2^n:Nat):Rat):=by exact_mod_cast bRU _
  have:=R.aH hW (show 0<=1-T by grind);have:(u:Rat)<=((2^n:Nat):Rat):=by grind
  exact_mod_cast this
 have Mu:u<=2^(n+h):=bMN hu (bOR (by decide) (by omega));obtain⟨s1,s2⟩:=R.aBW Mu;have r:=R.aKL hT0 hT u1 u2 (h:=h) (by omega) (by omega) (by omega) s1 s2;have b:((4^h*(2*(n+h)+10):Nat):Rat)<=R.pz (2*(h:Nat)+18):=by
  rw[show 2*(h:Int)+18=((2*h+18:Nat):Int) by omega,R.oA];have:4^h*(2*(n+h)+10)<=2^(2*h+18):=by
   rw[bQS,<-R.Hm];exact bOF _ (by have:(2:Nat)^18=262144:=rfl;omega)
  exact_mod_cast this
 exact⟨hu,bQW r.1 b,bQW r.2 b⟩
end M
namespace M
open Go AI W
theorem zZ(up:Bool)(p:Int×Int)(n:Nat):bl (shD up p n).1.natAbs<=n+1:=by
 unfold shD bV.mA;refine bMN (qL _ _) ?_;split
 ·dsimp only;omega
 ·rename_i h;dsimp only;exact Ub up p.1 _ n (by omega)
theorem Bp{p:Int×Int}{E:Int}(h0:p.1≠0)(h:R.ab (R.qz p)<R.pz E):bC p<E:=by
 have:=(rE h0).1;refine R.xQ.1 ?_;grind
theorem Fv{p:Int×Int}{E:Int}(h0:p.1≠0)(h:R.pz E<=R.ab (R.qz p)):E<=bC p:=by
 have:=(rE h0).2;have:R.pz E<R.pz (bC p+1):=by grind
 have:=R.xQ.1 this;omega
theorem zU{p:Int×Int}{E:Int}(h0:p.1≠0)(h:R.ab (R.qz p)<=R.pz E):bC p<=E:=by
 have:=(rE h0).1;refine R.Yn.1 ?_;grind
theorem Pl{p:Int×Int}(h:p.1≠0):R.qz p≠0:=by
 intro hz;have h1:=(rE h).1;have h2:=R.dT (bC p);rw[hz,R.bS (by grind)]at h1;grind
theorem Kp{p:Int×Int}(h:R.qz p≠0):p.1≠0:=fun hz=>h (R.lP hz)
theorem yX{p:Int×Int}:0<R.qz p↔0<p.1:=by
 have h:=R.dT p.2;unfold R.qz;constructor
 ·intro hp;refine Int.not_le.1 fun hn=>?_
  have c:(p.1:Rat)<=0:=by exact_mod_cast hn
  have:=R.aH (show 0<=-(p.1:Rat) by grind) (bQY h);grind
 ·intro hp;have c:(0:Rat)<(p.1:Rat):=by exact_mod_cast hp
  exact bRK c h
theorem Gi{p:Int×Int}:R.qz p<0↔p.1<0:=by
 have h:=yX (p:=(-p.1,p.2));rw[mQ]at h;constructor
 ·intro hp;have:=h.1 (by grind);dsimp only at this;omega
 ·intro hp;have:=h.2 (by dsimp only;omega);grind
theorem Ur{p q:Int×Int}{E:Int}{n:Nat}(hp:iL p)(hq:iL q)(h1:E<=p.2)(h2:E<=q.2)(v1:R.ab (R.qz p)<=R.pz (E+n))(v2:R.ab (R.qz q)<=R.pz (E+n))(hn:n<=500000)(hE:-1048576<=E)(hE2:E+n<=1048000):bJ.iV p q=true:=by
 unfold bJ.iV
 by_cases z1:p.1=0
 ·rw[decide_eq_true z1,bRB]
 by_cases z2:q.1=0
 ·rw[decide_eq_true z2,bRB,bRQ]
 rw[decide_eq_false z1,decide_eq_false z2,bNS,bNS];obtain⟨m1,m2⟩:=Fm p q;have hm:E<=bJ.fH p q:=by unfold bJ.fH;split <;> omega
 have bEC:bJ.fH p q<=1048576/\-1048576<=bJ.fH p q:=by have:=hp.2.1;have:=hq.2.1;unfold bJ.fH;split <;> omega
 have qX:R.qz (bJ.lK p q,bJ.fH p q)=R.qz p:=by
  unfold bJ.lK R.qz;dsimp only;have e1:R.pz p.2=R.pz (bJ.fH p q)*((2^(p.2-bJ.fH p q).toNat:Nat):Rat):=by rw[<-R.dU];congr 1;omega
  rw[e1,bWL,bWJ];grind
 have qY:R.qz (bJ.lI p q,bJ.fH p q)=R.qz q:=by
  unfold bJ.lI R.qz;dsimp only;have e1:R.pz q.2=R.pz (bJ.fH p q)*((2^(q.2-bJ.fH p q).toNat:Nat):Rat):=by rw[<-R.dU];congr 1;omega
  rw[e1,bWL,bWJ];grind
 have qS:R.qz (bJ.lK p q+bJ.lI p q,bJ.fH p q)=R.qz p+R.qz q:=by
  rw[<-qX,<-qY];unfold R.qz;dsimp only;rw[bXM];grind
 have vS:R.ab (R.qz (bJ.lK p q+bJ.lI p q,bJ.fH p q))<=R.pz (E+n+1):=by
  rw[qS,R.hI];have:=R.Ny (R.qz p) (R.qz q);grind
 rw[<-qX]at v1;rw[<-qY]at v2;generalize bJ.lK p q=X at *;generalize bJ.lI p q=Y at *;generalize bJ.fH p q=m at *;have bits:∀(z:Int) (F:Int),R.ab (R.qz (z,m))<=R.pz F->bl z.natAbs=0\/m+(bl z.natAbs:Nat)<=F+1:=by
  intro z F hv
  by_cases hz:z=0
  ·left;rw[hz];rfl
  ·right;have:=zU (p:=(z,m)) hz hv;unfold bC at this;dsimp only at this;omega
 have b1:=bits X _ v1;have b2:=bits Y _ v2;have b3:=bits (X+Y) _ vS;have f:∀z:Int,bl z.natAbs<=524288->fit z.natAbs=true:=fun z h=>decide_eq_true h
 rw[f X (by omega),f Y (by omega),f (X+Y) (by omega),fJ (by omega) (by omega)];rfl
theorem uJ{p:Int×Int}(h:iL p):iL ((p.1.natAbs:Int),p.2):=by
 obtain⟨h1,h2,h3,h4⟩:=h;exact⟨by dsimp only;rw[bRJ];exact h1,h2,fun hz=>h3 (by dsimp only at hz;omega),fun hz=>by dsimp only at hz ⊢;have:=h4 (by omega);omega⟩
theorem Gj(p:Int×Int):R.qz ((p.1.natAbs:Int),p.2)=R.ab (R.qz p):=by
 rw[yQ];unfold R.qz;dsimp only;rw[bWJ]
theorem aIB(p:Int×Int):bC ((p.1.natAbs:Int),p.2)=bC p:=by
 unfold bC;dsimp only;rw[bRJ]
theorem nZ:R.qz (1,0)=1:=by
 unfold R.qz;dsimp only;rw[R.fB];have:((1:Int):Rat)=1:=by norm_cast
 rw[this];grind
theorem xR:iL (1,0):=⟨by decide +kernel,⟨by decide,by decide⟩,fun h=>absurd h (by decide),fun _=>by decide⟩
theorem aEY{a f:Nat}{w q:Int}{V E:Rat}(hq:1<=q)(hE:R.ab ((a:Rat)-R.pz w*V)<=E)(hf:E<=(f:Rat))(hfa:(f:Rat)+E<=R.pz w*V)(hV:0<=V) :
  f<=a/\R.qz (shD false (bB.Ek a f w) q)<=V-R.pz (-w)*f+R.pz (-w)*E/\V-R.pz (-w)*f-R.pz (-w)*E-R.pz (1-q)*V<=R.qz (shD false (bB.Ek a f w) q) /\
  V+R.pz (-w)*f-R.pz (-w)*E<=R.qz (shD true (bB.yR a f w) q)/\R.qz (shD true (bB.yR a f w) q)<=V+R.pz (-w)*f+R.pz (-w)*E+R.pz (1-q)*(2*V):=by
 rw[R.dY]at hE;have aUO:f<=a:=by
  have:(f:Rat)<=(a:Rat):=by grind
  exact_mod_cast this
 refine⟨aUO,?_⟩;have g:=R.dT (-w);have gi:=R.aCN w;have n1:=(Bt false (bB.Ek a f w) hq).1 rfl;have n2:=(Bt true (bB.yR a f w) hq).2 rfl;have q1:R.qz (bB.Ek a f w)=((a:Rat)-(f:Rat))*R.pz (-w):=by
  unfold bB.Ek;rw[mF,bWJ,R.Cs aUO]
 have q2:R.qz (bB.yR a f w)=((a:Rat)+(f:Rat))*R.pz (-w):=by
  unfold bB.yR;rw[mF,bWJ,bWD]
 rw[q1]at n1;rw[q2]at n2;have a0:(0:Rat)<=(a:Rat)-(f:Rat):=by grind
 have f0:(0:Rat)<=(f:Rat):=by exact_mod_cast bRU f
 rw[R.bS (R.aH a0 (bQY g))]at n1;rw[R.bS (R.aH (show(0:Rat)<=(a:Rat)+(f:Rat) by grind) (bQY g))]at n2;have eV:R.pz (-w)*(R.pz w*V)=V:=by rw[<-bXA,bYJ (R.pz (-w)),gi];grind
 have m1:=R.aH (bQY g) (show 0<=E-((a:Rat)-R.pz w*V) by grind);have m2:=R.aH (bQY g) (show 0<=E+((a:Rat)-R.pz w*V) by grind);have m3:=R.aH (bQY g) (show 0<=R.pz w*V-((f:Rat)+E) by grind);have m4:=R.aH (bQY g) (show 0<=(f:Rat)-E by grind);have e0:R.pz w*V=R.pz w*V:=rfl;generalize R.pz w*V=U at *;generalize R.pz (-w)=G at *;have h0:=R.dT (1-q);generalize R.pz (1-q)=H at *;have k1:=R.aH (bQY h0) (show 0<=V-((a:Rat)-(f:Rat))*G by grind);have k2:=R.aH (bQY h0) (show 0<=2*V-((a:Rat)+(f:Rat))*G by grind);refine⟨?_,?_,?_,?_⟩ <;> grind
theorem Xx(p:Int×Int):R.qz (bB.uW p)<=1/\R.qz (bB.uW p)<=R.qz p/\(R.qz (bB.uW p)=R.qz p\/R.qz (bB.uW p)=1)/\(∀v,v<=R.qz p->v<=1->v<=R.qz (bB.uW p)):=by
 unfold bB.uW
 by_cases h:0<cR p (1,0)
 ·rw[decide_eq_true h,cond_true,nZ];have:=sL.1 h;rw[nZ]at this;exact⟨bSF,bQY this,Or.inr rfl,fun v _ h=>h⟩
 ·rw[decide_eq_false h,cond_false];have:R.qz p<=1:=by rw[<-nZ];exact Rat.not_lt.1 fun hn=>h (sL.2 hn)
  exact⟨this,bSF,Or.inl rfl,fun v h _=>h⟩
theorem Wl{p:Int×Int}(h:iL p):iL (bB.uW p):=by
 unfold bB.uW;cases decide (0<cR p (1,0))
 ·exact h
 ·exact xR
theorem aFV{p:Int×Int}{n:Nat}(hn:1<=n)(h:bl p.1.natAbs<=n):bl (bB.uW p).1.natAbs<=n:=by
 unfold bB.uW;cases decide (0<cR p (1,0))
 ·exact h
 ·exact hn
theorem aVO{x:Int×Int}{p:Int}{V:Rat}{a:Nat}(h0:x.1≠0)(h1:bC x<=0)(ht:-1200<=bC x)(hp:1<=p/\p<=67100)(hV:R.pz (bC x-1)<=V)(bEU:V<=1)
  (ha:R.ab ((a:Rat)-R.pz (aQ.w2 x p)*V)<=R.pz (2*(aQ.hv x p:Nat)+18)) :
  bD.aGD a (2^(2*aQ.hv x p+22)) (aQ.w2 x p) (p+32) /\
  iL (shD false (bB.Ek a (2^(2*aQ.hv x p+22)) (aQ.w2 x p)) (p+32)) /\
  R.qz (shD false (bB.Ek a (2^(2*aQ.hv x p+22)) (aQ.w2 x p)) (p+32))<=V-R.pz (bC x-p-270) /\
  V-R.pz (bC x-p-61)-R.pz (-p-31)*V<=R.qz (shD false (bB.Ek a (2^(2*aQ.hv x p+22)) (aQ.w2 x p)) (p+32)) /\
  V+R.pz (bC x-p-270)<=R.qz (shD true (bB.yR a (2^(2*aQ.hv x p+22)) (aQ.w2 x p)) (p+32)) /\
  R.qz (shD true (bB.yR a (2^(2*aQ.hv x p+22)) (aQ.w2 x p)) (p+32))<=V+R.pz (bC x-p-61)+R.pz (-p-31)*(2*V):=by
 obtain⟨e1,e2,h4,h5,h6,bBR,bBQ⟩:=Aw h0 h1 ht hp;generalize aQ.hv x p=h at *;generalize aQ.w2 x p=w at *;have tp:=R.dT (bC x-1);have V0:0<=V:=by grind
 have fE:((2^(2*h+22):Nat):Rat)=R.pz (2*(h:Nat)+22):=by rw[show 2*(h:Int)+22=((2*h+22:Nat):Int) by omega,R.oA]
 have l1:R.pz (2*(h:Nat)+18)<=R.pz (2*(h:Nat)+22):=R.dO (by omega);have l2:R.pz (2*(h:Nat)+22)+R.pz (2*(h:Nat)+18)<=R.pz w*V:=by
  have b1:R.pz (2*(h:Nat)+23)<=R.pz w*R.pz (bC x-1):=by rw[<-R.kB];exact R.dO (by omega)
  have b2:R.pz (2*(h:Nat)+23)=2*R.pz (2*(h:Nat)+22):=by rw[<-R.hI];congr 1
  have b3:=R.aH (bQY (R.dT w)) (show 0<=V-R.pz (bC x-1) by grind);grind
 have r:=aEY (a:=a) (f:=2^(2*h+22)) (w:=w) (q:=p+32) (V:=V) (E:=R.pz (2*(h:Nat)+18)) (by omega) ha (by rw[fE];exact l1) (by rw[fE];exact l2) V0;obtain⟨r0,r1,r2,r3,r4⟩:=r;rw[fE,<-R.kB,<-R.kB]at r1 r2 r3 r4;rw[show(1:Int)-(p+32)=-p-31 by omega]at r2 r4;have d1:R.pz (-w+(2*(h:Nat)+18))=R.pz (-w+(2*(h:Nat)+22))/16:=by
  have:=R.fZ (-w+(2*(h:Nat)+22)) (n:=4) (c:=16) (by norm_cast);rw[show -w+(2*(h:Int)+22)-((4:Nat):Int)=-w+(2*(h:Nat)+18) by omega]at this;grind
 have d2:R.pz (bC x-p-270)<=R.pz (-w+(2*(h:Nat)+22))/16:=by rw[<-d1];exact R.dO (by omega)
 have d3:R.pz (-w+(2*(h:Nat)+22))*2<=R.pz (bC x-p-61):=by
  rw[bYJ,<-R.hI];exact R.dO (by omega)
 rw[d1]at r1 r2 r3 r4;have dp:=R.dT (-w+(2*(h:Nat)+22));have ba:bl a<=70000:=by
  have:(a:Rat)<=R.pz (w+1):=by
   rw[R.dY]at ha;rw[R.hI];have b3:=R.aH (bQY (R.dT w)) (show 0<=1-V by grind);have:R.pz (2*(h:Nat)+18)<=R.pz w:=R.dO (by omega);grind
  obtain⟨n,hn⟩:=bQT (show 0<=w+1 by omega);rw[hn,R.oA]at this;have:a<=2^n:=by exact_mod_cast this
  refine bMN (gD this) ?_;rw[aFY];omega
 have bf:bl (2^(2*h+22))<=500:=by rw[aFY];omega
 have bs:bl (a-2^(2*h+22))<=70000:=bMN (gD (bSP _ _)) ba;have bt:bl (a+2^(2*h+22))<=70001:=bMN (yA _ _) (by omega);have j1:fR ((a-2^(2*h+22):Nat):Int) (-w)=true:=fJ (by omega) (by rw[bRJ];omega);have j2:fR ((a+2^(2*h+22):Nat):Int) (-w)=true:=fJ (by omega) (by rw[bRJ];omega);have p1:iL (bB.Ek a (2^(2*h+22)) w):=fF j1 (by rw[bRJ];omega);have p2:iL (bB.yR a (2^(2*h+22)) w):=fF j2 (by rw[bRJ];omega);have aLO:∀{z:Nat},bl z<=70001->iL (aK (z:Int) (-w))->aXG (aK (z:Int) (-w)):=by
  intro z hz hP;refine⟨hP,?_⟩;have hb:=qL (z:Int) (-w);rw[bRJ]at hb
  by_cases z0:(z:Int)=0
  ·rw[z0,cZ];show(0:Int)+((bl (0:Int).natAbs:Nat):Int)<=1048000;decide +kernel
  ·have h2:=(jG (e:=-w) z0).2;have h3:=zS (n:=z) (by omega);rw[bRJ]at h2;omega
 obtain⟨s1,s2⟩:=Kh (up:=false) (n:=p+32) (aLO (by omega) p1) (by omega);obtain⟨s3,s4⟩:=Kh (up:=true) (n:=p+32) (aLO bt p2) (by omega);refine⟨⟨by omega,by omega,⟨by omega,by omega⟩,s1,s3,s4⟩,s2,?_,?_,?_,?_⟩ <;> grind
end M
namespace M
open Go AI W
theorem aNE(up:Bool)(p:Int×Int){n:Int}(hn:bC p+1-n<=0):bC p+1-n<=(shD up p n).2:=by
 have key:∀z e:Int,bC p+1-n<=e->bC p+1-n<=(aK z e).2:=by
  intro z e he
  by_cases hz:z=0
  ·rw[hz,cZ];exact hn
  ·have:=mN (e:=e) hz;omega
 unfold shD bV.mA;unfold bC at *;split
 ·exact key _ _ (by omega)
 ·exact key _ _ (by omega)
theorem Vz{up:Bool}{p:Int×Int}{n:Int}(h:(shD up p n).1≠0):bC p+1-n<=(shD up p n).2:=by
 have key:∀z e:Int,(aK z e).1≠0->bC p+1-n<=e->bC p+1-n<=(aK z e).2:=by
  intro z e h0 he;have:=mN (e:=e) (fun hz=>h0 (dC.2 hz));omega
 unfold shD at *;refine key _ _ h ?_;unfold bV.mA bC at *;split <;> (dsimp only;omega)
theorem Yb{p q:Int×Int}{E:Int}(h1:E<=p.2)(h2:E<=q.2)(h0:E<=0):E<=(bJ.mL p q).2:=by
 have hm:E<=bJ.fH p q:=by unfold bJ.fH;split <;> omega
 unfold bJ.mL;split
 ·exact h2
 ·split
  ·exact h1
  ·by_cases hz:bJ.lK p q+bJ.lI p q=0
   ·rw[hz,cZ];exact h0
   ·have:=mN (e:=bJ.fH p q) hz;omega
theorem aGA{p:Int×Int}{E F:Int}(h1:E<=p.2)(h2:R.ab (R.qz p)<=R.pz F):(bl p.1.natAbs:Int)<=F+1-E\/bl p.1.natAbs=0:=by
 by_cases h0:p.1=0
 ·right;rw[h0];rfl
 ·left;have:=zU h0 h2;unfold bC at this;omega
theorem Ew(k:Int):R.qz (-1,k)=-R.pz k:=by
 unfold R.qz;dsimp only;have:((-1:Int):Rat)=-1:=by norm_cast
 rw[this];grind
theorem Pp{k:Int}(h:-1048576<=k/\k<=1048576):iL (-1,k):=⟨by show bl (-1:Int).natAbs<=524288;decide +kernel,h,fun h=>absurd (show(-1:Int)=0 from h) (by decide),fun _=>by show(-1:Int)%2=1;decide⟩
theorem Vk{x:Int×Int}(h0:x.1≠0)(hT:R.ab (R.qz x)<=4/5):bC x<=-1:=by
 have:R.ab (R.qz x)<R.pz 0:=by rw[R.fB];grind
 have:=Bp h0 this;omega
structure aRK(x:Int×Int)(p:Int):Prop where
 pl:iL (eK.qJ x p)
 ph:iL (eK.pK x p)
 bl:bl (eK.qJ x p).1.natAbs<=80000
 bh:M.bl (eK.pK x p).1.natAbs<=80000
 lo:R.qz (eK.qJ x p)<=R.sn (R.ab (R.qz x))-R.pz (bC x-p-270)
 hi:R.sn (R.ab (R.qz x))<=R.qz (eK.pK x p)
 wd:R.qz (eK.pK x p)-R.qz (eK.qJ x p)<=R.pz (-p-1)*R.ab (R.qz x)
 one:R.qz (eK.pK x p)<=1
 mh:¬2*bC x+8 < -p->R.sn (R.ab (R.qz x))+R.pz (bC x-p-270)<=R.qz (eK.pK x p)
 pos:0<R.qz (eK.qJ x p)
 aXW:2*bC x+8 < -p->vW true ((x.1.natAbs:Int),x.2) (p+32)=true/\vW false ((x.1.natAbs:Int),x.2) (p+32)=true/\iL (shD false ((x.1.natAbs:Int),x.2) (p+32))/\bJ.iV (shD false ((x.1.natAbs:Int),x.2) (p+32)) (-1,bC x-p-3)=true
 okB:¬2*bC x+8 < -p->bD.Nr x p/\bD.aGD (aQ.yM x p).1 (2^(2*aQ.hv x p+22)) (aQ.w2 x p) (p+32)
theorem aLI{p:Int}(hp:1<=p):R.pz (-p-1)<=1/4:=by
 have h:=R.dO (show -p-1<=-2 by omega);have h2:=R.yY 2;rw[show -((2:Nat):Int)=-2 by rfl]at h2;rw[h2]at h;have h3:R.hf 2=1/4:=by simp[R.hf];grind
 grind
theorem Pg{x:Int×Int}{p:Int}(hx:iL x)(h0:x.1≠0)(hT:R.ab (R.qz x)<=4/5)(ht:-1200<=bC x)(hp:1<=p/\p<=67100):aRK x p:=by
 have h1:=Vk h0 hT;obtain⟨e1,e2,h4,h5,h6,bBR,bBQ⟩:=Aw h0 (by omega) ht hp;obtain⟨t1,t2⟩:=rE h0;have tp:=R.dT (bC x);have T0:0<R.ab (R.qz x):=by grind
 obtain⟨v1,v2⟩:=R.aCB (bQY T0) hT;obtain⟨z,hz⟩:∃z,z=R.pz (-p-31):=⟨_,rfl⟩;have z0:=R.dT (-p-31);have q1:R.pz (-p-1)=1073741824*z:=by
  have:=R.fZ (-p-1) (n:=30) (c:=1073741824) (by norm_cast);rw[show -p-1-((30:Nat):Int)=-p-31 by omega,<-hz]at this;grind
 have q2:R.pz (bC x-p-61)=z*R.pz (bC x)/1073741824:=by
  have:=R.fZ (-p-31+bC x) (n:=30) (c:=1073741824) (by norm_cast);rw[show -p-31+bC x-((30:Nat):Int)=bC x-p-61 by omega,R.kB,<-hz]at this;grind
 have q3:R.pz (bC x-p-3)=268435456*(z*R.pz (bC x)):=by
  have:=R.fZ (bC x-p-3) (n:=28) (c:=268435456) (by norm_cast);rw[show bC x-p-3-((28:Nat):Int)=-p-31+bC x by omega,R.kB,<-hz]at this;grind
 have sm:=aLI hp.1;rw[q1]at sm;rw[<-hz]at z0;have zt:=R.aH (bQY z0) (show 0<=R.ab (R.qz x)-R.pz (bC x) by grind);have zT:=R.aH (bQY T0) (show 0<=1/4-1073741824*z by grind);have aJB:R.pz (bC x-p-270)<=R.pz (bC x-p-61):=R.dO (by omega);have p270:=R.dT (bC x-p-270)
 by_cases c:2*bC x+8 < -p
 ·have dL:eK.qJ x p=bJ.mL (shD false ((x.1.natAbs:Int),x.2) (p+32)) (-1,bC x-p-3):=by unfold eK.qJ;rw[e1,if_pos c]
  have dH:eK.pK x p=shD true ((x.1.natAbs:Int),x.2) (p+32):=by unfold eK.pK;rw[e1,if_pos c]
  have pX:=uJ hx;have vX:=Gj x;have tX:=aIB x;have n1:=(Bt false ((x.1.natAbs:Int),x.2) (n:=p+32) (by omega)).1 rfl;have n2:=(Bt true ((x.1.natAbs:Int),x.2) (n:=p+32) (by omega)).2 rfl;rw[vX,show(1:Int)-(p+32)=-p-31 by omega,<-hz,R.bS (bQY T0)]at n1 n2;have aLO:aXG ((x.1.natAbs:Int),x.2):=⟨pX,by unfold bC at tX h1;dsimp only at *;omega⟩;obtain⟨s1,s2⟩:=Kh (up:=false) (n:=p+32) aLO (by omega);obtain⟨s3,s4⟩:=Kh (up:=true) (n:=p+32) aLO (by omega);have x1:=aNE false ((x.1.natAbs:Int),x.2) (n:=p+32) (by rw[tX];omega);have x2:=zZ true ((x.1.natAbs:Int),x.2) (p+32).toNat;rw[tX]at x1;rw[show(((p+32).toNat:Nat):Int)=p+32 by omega]at x2;have pm:=Pp (k:=bC x-p-3) (by omega);have T1:R.ab (R.qz x)<=R.pz (bC x+1):=bQY t2;have L0:0<=R.qz (shD false ((x.1.natAbs:Int),x.2) (p+32)):=by grind
  have aVP:bJ.iV (shD false ((x.1.natAbs:Int),x.2) (p+32)) (-1,bC x-p-3)=true:=by
   refine Ur (E:=bC x-p-40) (n:=(p+41).toNat) s2 pm (by omega) (by dsimp only;omega) ?_ ?_ (by omega) (by omega) (by omega)
   ·rw[show bC x-p-40+(((p+41).toNat:Nat):Int)=bC x+1 by omega,R.bS L0];grind
   ·rw[Ew,R.gT,R.bS (bQY (R.dT _))];exact R.dO (by omega)
  have pl:=Mh s2 pm aVP;have xl:=Yb (p:=shD false ((x.1.natAbs:Int),x.2) (p+32)) (q:=(-1,bC x-p-3)) (E:=bC x-p-40) (by omega) (by dsimp only;omega) (by omega);have ql:=Sz (shD false ((x.1.natAbs:Int),x.2) (p+32)) (-1,bC x-p-3);rw[Ew,q3]at ql;rw[<-dL]at pl xl ql;rw[<-dH]at s4 x2 n2;have cube:R.ab (R.qz x)-z*R.pz (bC x)*268435456/16<=R.sn (R.ab (R.qz x)):=by
   have s:=(R.zY (bQY T0) (show R.ab (R.qz x)<=1 by grind)).1;have a1:R.ab (R.qz x)*R.ab (R.qz x)<=R.pz (bC x+1)*R.pz (bC x+1):=R.cT (bQY T0) T1 (bQY T0) T1;rw[<-R.kB]at a1;have a2:R.pz (bC x+1+(bC x+1))<=R.pz (-p-7):=R.dO (by omega);have a3:R.pz (-p-7)=16777216*z:=by
    have:=R.fZ (-p-7) (n:=24) (c:=16777216) (by norm_cast);rw[show -p-7-((24:Nat):Int)=-p-31 by omega,<-hz]at this;grind
   have a4:=R.aH (show 0<=16777216*z-R.ab (R.qz x)*R.ab (R.qz x) by grind) (bQY T0);rw[R.hI]at T1;have a5:=R.aH (bQY z0) (show 0<=2*R.pz (bC x)-R.ab (R.qz x) by grind);generalize R.ab (R.qz x)=T at *;grind
  have bFT:=bRK z0 tp;refine⟨pl,s4,?_,by omega,?_,?_,?_,?_,fun h=>absurd c h,?_,fun _=>⟨s3,s1,s2,aVP⟩,fun h=>absurd c h⟩
  ·have v:R.ab (R.qz (eK.qJ x p))<=R.pz (bC x+1):=by
    rw[R.bS (by grind)];grind
   have:=aGA xl v;omega
  ·rw[q2]at aJB;grind
  ·grind
  ·rw[q1];grind
  ·grind
  ·grind
 ·have dL:eK.qJ x p=shD false (bB.Ek (aQ.yM x p).1 (2^(2*aQ.hv x p+22)) (aQ.w2 x p)) (p+32):=by unfold eK.qJ;rw[e1,if_neg c]
  have dH:eK.pK x p=bB.uW (shD true (bB.yR (aQ.yM x p).1 (2^(2*aQ.hv x p+22)) (aQ.w2 x p)) (p+32)):=by unfold eK.pK;rw[e1,if_neg c]
  obtain⟨b1,b2,b3⟩:=Rg h0 (by grind) (by omega) ht hp;have hV:R.pz (bC x-1)<=R.sn (R.ab (R.qz x)):=by
   have:=R.nD (bC x);grind
  obtain⟨a1,a2,a3,a4,a5,a6⟩:=aVO h0 (by omega) ht hp hV (by grind) b2;have a7:=a1.2.2.2.2.2;have c1:=zZ false (bB.Ek (aQ.yM x p).1 (2^(2*aQ.hv x p+22)) (aQ.w2 x p)) (p+32).toNat;have c2:=zZ true (bB.yR (aQ.yM x p).1 (2^(2*aQ.hv x p+22)) (aQ.w2 x p)) (p+32).toNat;rw[show(((p+32).toNat:Nat):Int)=p+32 by omega]at c1 c2;obtain⟨k1,k2,k3,k4⟩:=Xx (shD true (bB.yR (aQ.yM x p).1 (2^(2*aQ.hv x p+22)) (aQ.w2 x p)) (p+32));have c3:=aFV (n:=80000) (by omega) (show bl (shD true (bB.yR (aQ.yM x p).1 (2^(2*aQ.hv x p+22)) (aQ.w2 x p)) (p+32)).1.natAbs<=80000 by omega);have c4:=Wl a7;rw[<-dL]at a2 a3 a4 c1;rw[<-dH]at k1 k2 k3 k4 c3 c4;generalize shD true (bB.yR (aQ.yM x p).1 (2^(2*aQ.hv x p+22)) (aQ.w2 x p)) (p+32)=hi at *;rw[<-hz]at a4 a6;have zV:=R.aH (bQY z0) (show 0<=R.ab (R.qz x)-R.sn (R.ab (R.qz x)) by grind);have hm:R.sn (R.ab (R.qz x))+R.pz (bC x-p-270)<=R.qz (eK.pK x p):=by
   refine k4 _ a5 ?_;rw[q2]at aJB;grind
  refine⟨a2,c4,by omega,c3,a3,by grind,?_,k1,fun _=>hm,?_,fun h=>absurd h c,fun _=>⟨⟨⟨by omega,by omega⟩,b1⟩,a1⟩⟩
  ·rw[q1];rw[q2]at a4 a6;grind
  ·rw[q2]at a4;grind
structure aXJ(x:Int×Int)(p:Int):Prop where
 pl:iL (bD.qQ x p)
 ph:iL (bD.pU x p)
 bl:bl (bD.qQ x p).1.natAbs<=80000
 bh:M.bl (bD.pU x p).1.natAbs<=80000
 lo:R.qz (bD.qQ x p)<=R.cs (R.ab (R.qz x))
 hi:R.cs (R.ab (R.qz x))<=R.qz (bD.pU x p)
 wd:R.qz (bD.pU x p)-R.qz (bD.qQ x p)<=R.pz (-p-1)
 one:R.qz (bD.pU x p)<=1
 ml:x.1≠0->R.qz (bD.qQ x p)<=R.cs (R.ab (R.qz x))-R.pz (bC x-p-270)
 mh:x.1≠0->¬2*bC x+8 < -p->R.cs (R.ab (R.qz x))+R.pz (bC x-p-270)<=R.qz (bD.pU x p)
 aXW:x.1≠0->2*bC x+8 < -p->bJ.iV (1,0) (-1,-p-3)=true
 okB:x.1≠0->¬2*bC x+8 < -p->bD.Nr x p/\bD.aGD (aQ.yM x p).2 (2^(2*aQ.hv x p+22)) (aQ.w2 x p) (p+32)
theorem Hs{x:Int×Int}{p:Int}(hT:R.ab (R.qz x)<=4/5)(ht:x.1≠0->-1200<=bC x)(hp:1<=p/\p<=67100):aXJ x p:=by
 obtain⟨z,hz⟩:∃z,z=R.pz (-p-31):=⟨_,rfl⟩;have z0:=R.dT (-p-31);have q1:R.pz (-p-1)=1073741824*z:=by
  have:=R.fZ (-p-1) (n:=30) (c:=1073741824) (by norm_cast);rw[show -p-1-((30:Nat):Int)=-p-31 by omega,<-hz]at this;grind
 have sm:=aLI hp.1;rw[q1]at sm;rw[<-hz]at z0
 by_cases h0:x.1=0
 ·have dL:bD.qQ x p=(1,0):=by unfold bD.qQ;rw[if_pos h0]
  have dH:bD.pU x p=(1,0):=by unfold bD.pU;rw[if_pos h0]
  have c1:R.cs (R.ab (R.qz x))=1:=by rw[R.lP h0,R.bS (bSF),R.Np]
  refine⟨by rw[dL];exact xR,by rw[dH];exact xR,by rw[dL];decide +kernel,by rw[dH];decide +kernel,by rw[dL,nZ,c1];exact bSF,by rw[dH,nZ,c1];exact bSF,?_,by rw[dH,nZ];exact bSF,fun h=>absurd h0 h,fun h=>absurd h0 h,fun h=>absurd h0 h,fun h=>absurd h0 h⟩;rw[dL,dH,q1];grind
 ·have ht:=ht h0;have h1:=Vk h0 hT;obtain⟨e1,e2,h4,h5,h6,bBR,bBQ⟩:=Aw h0 (by omega) ht hp;obtain⟨t1,t2⟩:=rE h0;have tp:=R.dT (bC x);have T0:0<R.ab (R.qz x):=by grind
  obtain⟨v1,v2⟩:=R.Xt (r:=R.ab (R.qz x)) (by rw[R.bS (bQY T0)];exact hT);have T1:R.ab (R.qz x)<=R.pz (bC x+1):=bQY t2;have pt:R.pz (bC x)<=1/2:=by
   have:=R.dO (show bC x+1<=0 by omega);rw[R.hI,R.fB]at this;grind
  have q2:R.pz (bC x-p-61)=z*R.pz (bC x)/1073741824:=by
   have:=R.fZ (-p-31+bC x) (n:=30) (c:=1073741824) (by norm_cast);rw[show -p-31+bC x-((30:Nat):Int)=bC x-p-61 by omega,R.kB,<-hz]at this;grind
  have zt:=R.aH (bQY z0) (show 0<=1/2-R.pz (bC x) by grind);have bFT:=bRK z0 tp;have aJB:R.pz (bC x-p-270)<=R.pz (bC x-p-61):=R.dO (by omega);rw[q2]at aJB;have cs2:=R.Ra (bQY T0) (show R.ab (R.qz x)<=1 by grind)
  by_cases c:2*bC x+8 < -p
  ·have dL:bD.qQ x p=bJ.mL (1,0) (-1,-p-3):=by unfold bD.qQ;rw[e1,if_neg h0,if_pos c]
   have dH:bD.pU x p=(1,0):=by unfold bD.pU;rw[e1,if_neg h0,if_pos c]
   have pm:=Pp (k:=-p-3) (by omega);have o1:R.ab (R.qz (1,0))<=R.pz 0:=by rw[nZ,R.fB,R.bS (by grind)];exact bSF
   have aVP:bJ.iV (1,0) (-1,-p-3)=true:=by
    refine Ur (E:=-p-3) (n:=(p+3).toNat) xR pm (by dsimp only;omega) (by dsimp only;omega) ?_ ?_ (by omega) (by omega) (by omega)
    ·rw[show -p-3+(((p+3).toNat:Nat):Int)=0 by omega];exact o1
    ·rw[Ew,R.gT,R.bS (bQY (R.dT _))];exact R.dO (by omega)
   have pl:=Mh xR pm aVP;have xl:=Yb (p:=(1,0)) (q:=(-1,-p-3)) (E:=-p-3) (by dsimp only;omega) (by dsimp only;omega) (by omega);have ql:=Sz (1,0) (-1,-p-3);have q3:R.pz (-p-3)=268435456*z:=by
    have:=R.fZ (-p-3) (n:=28) (c:=268435456) (by norm_cast);rw[show -p-3-((28:Nat):Int)=-p-31 by omega,<-hz]at this;grind
   rw[Ew,nZ,q3]at ql;rw[<-dL]at pl xl ql;have lo:R.qz (bD.qQ x p)<=R.cs (R.ab (R.qz x))-R.pz (bC x-p-270):=by
    have a1:R.ab (R.qz x)*R.ab (R.qz x)<=R.pz (bC x+1)*R.pz (bC x+1):=R.cT (bQY T0) T1 (bQY T0) T1;rw[<-R.kB]at a1;have a2:R.pz (bC x+1+(bC x+1))<=R.pz (-p-7):=R.dO (by omega);have a3:R.pz (-p-7)=16777216*z:=by
     have:=R.fZ (-p-7) (n:=24) (c:=16777216) (by norm_cast);rw[show -p-7-((24:Nat):Int)=-p-31 by omega,<-hz]at this;grind
    grind
   refine⟨pl,by rw[dH];exact xR,?_,by rw[dH];decide +kernel,?_,by rw[dH,nZ];exact v2,?_,by rw[dH,nZ];exact bSF,fun _=>lo,fun _ h=>absurd c h,fun _ _=>aVP,fun _ h=>absurd c h⟩
   ·have v:R.ab (R.qz (bD.qQ x p))<=R.pz 0:=by
     rw[R.fB,R.bS (by grind)];grind
    have:=aGA xl v;omega
   ·have:=R.dT (bC x-p-270);grind
   ·rw[dH,nZ,q1];grind
  ·have dL:bD.qQ x p=shD false (bB.Ek (aQ.yM x p).2 (2^(2*aQ.hv x p+22)) (aQ.w2 x p)) (p+32):=by unfold bD.qQ;rw[e1,if_neg h0,if_neg c]
   have dH:bD.pU x p=bB.uW (shD true (bB.yR (aQ.yM x p).2 (2^(2*aQ.hv x p+22)) (aQ.w2 x p)) (p+32)):=by unfold bD.pU;rw[e1,if_neg h0,if_neg c]
   obtain⟨b1,b2,b3⟩:=Rg h0 (by grind) (by omega) ht hp;have hV:R.pz (bC x-1)<=R.cs (R.ab (R.qz x)):=by
    have:=R.nD (bC x);grind
   obtain⟨a1,a2,a3,a4,a5,a6⟩:=aVO h0 (by omega) ht hp hV v2 b3;have a7:=a1.2.2.2.2.2;have c1:=zZ false (bB.Ek (aQ.yM x p).2 (2^(2*aQ.hv x p+22)) (aQ.w2 x p)) (p+32).toNat;have c2:=zZ true (bB.yR (aQ.yM x p).2 (2^(2*aQ.hv x p+22)) (aQ.w2 x p)) (p+32).toNat;rw[show(((p+32).toNat:Nat):Int)=p+32 by omega]at c1 c2;obtain⟨k1,k2,k3,k4⟩:=Xx (shD true (bB.yR (aQ.yM x p).2 (2^(2*aQ.hv x p+22)) (aQ.w2 x p)) (p+32));have c3:=aFV (n:=80000) (by omega) (show bl (shD true (bB.yR (aQ.yM x p).2 (2^(2*aQ.hv x p+22)) (aQ.w2 x p)) (p+32)).1.natAbs<=80000 by omega);have c4:=Wl a7;rw[<-dL]at a2 a3 a4 c1;rw[<-dH]at k1 k2 k3 k4 c3 c4;generalize shD true (bB.yR (aQ.yM x p).2 (2^(2*aQ.hv x p+22)) (aQ.w2 x p)) (p+32)=hi at *;rw[<-hz]at a4 a6;have zV:=R.aH (bQY z0) (show 0<=1-R.cs (R.ab (R.qz x)) by grind);have m9:=R.dT (bC x-p-270);have room:R.cs (R.ab (R.qz x))+R.pz (bC x-p-270)<=1:=by
    have a1:R.pz (bC x)*R.pz (bC x)<=R.ab (R.qz x)*R.ab (R.qz x):=R.cT (bQY tp) t1 (bQY tp) t1;rw[<-R.kB]at a1;have a2:R.pz (-p-9)<=R.pz (bC x+bC x):=R.dO (by omega);have a3:R.pz (-p-9)=4194304*z:=by
     have:=R.fZ (-p-9) (n:=22) (c:=4194304) (by norm_cast);rw[show -p-9-((22:Nat):Int)=-p-31 by omega,<-hz]at this;grind
    have a5:=R.cT (bQY T0) hT (bQY T0) hT;have a6:=R.aH (show 0<=R.ab (R.qz x)*R.ab (R.qz x) by grind) (show 0<=16/25-R.ab (R.qz x)*R.ab (R.qz x) by grind);generalize R.ab (R.qz x)=T at *;grind
   have hm:R.cs (R.ab (R.qz x))+R.pz (bC x-p-270)<=R.qz (bD.pU x p):=k4 _ a5 room;rw[q2]at a4 a6;refine⟨a2,c4,by omega,c3,by grind,by grind,?_,k1,fun _=>a3,fun _ _=>hm,fun _ h=>absurd h c,fun _ _=>⟨⟨⟨by omega,by omega⟩,b1⟩,a1⟩⟩;rw[q1];grind
end M
namespace W
open Go AI M
namespace aN
def E:=mE [] 11 [] [] []
def aE:=bd f78
theorem aW:Nk E aE:=nk
theorem start a:aF E f78 aE [D.s (sc (int i64 a))]=letI A:=int i64 0;aB (a==32) (some [D.agg [sc (int i64 32),sc (int i64 24),sc (int i64 (-149:Int)),sc (int u64 2143289345)]]) (aB (a==64) (some [D.agg [sc (int i64 64),sc (int i64 53),sc (int i64 (-1074:Int)),sc (int u64 9221120237041090561)]]) (some [D.agg [sc A,sc A,sc A,sc (int u64 0)]])):=eJ aW
def gW(f:Int):Int×Int×Int×Int:=if f=32 then(32,24,-149,2143289345)else if f=64 then(64,53,-1074,9221120237041090561)else(0,0,0,0)
def aXM(s:Int×Int×Int×Int):D:=.agg [.sc (.int .i64 s.1),.sc (.int .i64 s.2.1),.sc (.int .i64 s.2.2.1),.sc (.int .u64 s.2.2.2)]
def tY(s:Int×Int×Int×Int):Prop:=s=(32,24,-149,2143289345)\/s=(64,53,-1074,9221120237041090561)
theorem two32:tY (32,24,-149,2143289345):=.inl rfl
theorem vG:tY (64,53,-1074,9221120237041090561):=.inr rfl
def sp(f:Int):Prop×List D:=(True,[aXM (gW f)])
theorem spec:gI E f78 aE (pN .i64) sp:=by
 intro f h;refine(start f).trans ?_;unfold sp gW
 try dsimp only
 by_cases h1:f=32
 ·rw[cC h1,if_pos h1];rfl
 ·rw[bP h1,if_neg h1]
  by_cases h2:f=64
  ·rw[cC h2,if_pos h2];rfl
  ·rw[bP h2,if_neg h2];rfl
def aG:cX:=orc1 (pN .i64) sp
theorem ok:OK 78 aG:=(eB E aE aD func78).nA rfl spec
end aN
namespace dJ
def E:=mE [] 7 [] [] []
def aE:=bd f135
theorem aW:Nk E aE:=nk
theorem start a b c d:aF E f135 aE [D.agg [sc (int i64 a),sc (int i64 b),sc (int i64 c),sc (int u64 d)]]=if i64.wrap (a-1)<0 then none else some [D.s (sc (int u64 (u64.wrap ((1:Int)*(↑((2:Nat)^min (i64.wrap (a-1)).toNat 64):Int)))))]:=eJ aW
def dV(s:Int×Int×Int×Int):Int:=if s.1=32 then 2147483648 else 9223372036854775808
def sp(s:Int×Int×Int×Int):Prop×List D:=(aN.tY s,[.s (.sc (.int .u64 (dV s)))])
theorem spec:gI E f135 aE (pG (.pair (sN .i64) (.pair (sN .i64) (.pair (sN .i64) (sN .u64))))) sp:=by
 intro s h;refine(start s.1 s.2.1 s.2.2.1 s.2.2.2).trans ?_;rcases h with rfl |rfl
 ·rfl
 ·rfl
def aG:cX:=orc1 (pG (.pair (sN .i64) (.pair (sN .i64) (.pair (sN .i64) (sN .u64))))) sp
theorem ok:OK 135 aG:=(eB E aE aD func135).nA rfl spec
end dJ
namespace dZ
def E:=mE [(78,aN.aG),(135,dJ.aG)] 36 [] [(6,[1,4,8])] [6]
def aE:=bd f77
theorem aW:Nk E aE:=nk
def J6 a b c d e f g h i:=kV E f77 aE 6 [cG a,dG 1 84 [cP b,cP c,cP d,aHZ e],dG 2 84 [cP f,cP g,cP h,aHZ i]]
theorem start a b:aF E f77 aE [D.s (sc (int i64 a)),D.s (sc (int u64 b))]=letI A:=aN.gW a;letI G:=int i64 A.snd.fst;letI F:=int u64 A.snd.snd.snd;letI C:=int i64 A.snd.snd.fst;letI B:=dZ.J6 b 0 0 0 0 A.fst A.snd.fst A.snd.snd.fst A.snd.snd.snd;aP True (aB (A.fst==0&&(A.snd.fst==0&&(A.snd.snd.fst==0&&(A.snd.snd.snd==0&&true)))) (some [D.agg [sc (int i64 A.fst),sc G,sc C,sc F],D.s (sc (bool false)),D.s (sc (int u64 0)),D.s (sc (int i64 1))]) (aB (decide (A.fst<64)) (if A.fst<0 then none else aB (b/(↑((2:Nat)^min A.fst.toNat 64):Int) !=(0:Int)) (some [D.agg [sc (int i64 A.fst),sc G,sc C,sc F],D.s (sc (bool false)),D.s (sc (int u64 0)),D.s (sc (int i64 2))]) B) B)):=eJ aW
theorem Lm a b c d e f g h i:J6 a b c d e f g h i=letI A:=(f,g,h,i);aP (aN.tY A) (aP (aN.tY A) (some [D.agg [sc (int i64 f),sc (int i64 g),sc (int i64 h),sc (int u64 i)],D.s (sc (bool (dX BinOp.and u64 a (dJ.dV A) !=0))),D.s (sc (int u64 (dX BinOp.andNot u64 a (dJ.dV A)))),D.s (sc (int i64 0))])):=cJ aW
theorem Rn{a b:Int}(ha:0<=a)(aXA:a<18446744073709551616)(hb:0<=b)(vL:b<18446744073709551616):dX .andNot .u64 a b=((a.toNat &&& (2^64-(b.toNat+1)):Nat):Int):=by
 obtain⟨n,rfl⟩:=bQT ha;obtain⟨m,rfl⟩:=bQT hb;rw[pA];unfold bitsI0;simp only;have e:(BitVec.ofInt u64.bits (n:Int) &&& ~~~ BitVec.ofInt u64.bits (m:Int)).toNat=n &&& (2^64-(m+1)):=by
  show(BitVec.ofInt 64 (n:Int) &&& ~~~ BitVec.ofInt 64 (m:Int)).toNat=_;rw[BitVec.toNat_and,BitVec.toNat_not];have e1:(BitVec.ofInt 64 (n:Int)).toNat=n:=by simp;omega
  have e2:(BitVec.ofInt 64 (m:Int)).toNat=m:=by simp;omega
  rw[e1,e2];congr 1;omega
 have hle:n &&& (2^64-(m+1))<=n:=Nat.and_le_left;rw[e,wrap_u64];rfl
theorem Lb{n k:Nat}(hk:k<64)(h:n<2^(k+1)):n &&& (2^64-(2^k+1))=n%2^k:=by
 refine bYC fun i=>?_
 have hp:2^k<2^64:=bSK (by decide) hk;rw[bXZ,Nat.testBit_two_pow_sub_succ hp,Nat.testBit_mod_two_pow,bZD]
 by_cases h1:i<k
 ·have:¬k=i:=by omega
  have bFB:i<64:=by omega
  simp[h1,this,bFB]
 ·by_cases h2:i=k
  ·subst h2;simp
  ·have:n<2^i:=bMR h (bOR (by decide) (by omega));rw[bZE this];simp
theorem Vl{n k:Nat}(h:n<2^(k+1)):(n &&& 2^k)=if 2^k<=n then 2^k else 0:=by
 refine bYC fun i=>?_
 rw[bXZ,bZD]
 by_cases h1:2^k<=n
 ·have ht:n.testBit k=true:=by
   rw[Nat.testBit_eq_decide_div_mod_eq];have:=Nat.div_eq_of_lt_le (k:=1) (show 1*2^k<=n by omega) (show n<(1+1)*2^k by rw[bQQ]at h;omega);rw[this];rfl
  rw[if_pos h1,bZD]
  by_cases hi:k=i
  ·subst hi;simp[ht]
  ·simp[hi]
 ·rw[if_neg h1,Nat.zero_testBit]
  by_cases hi:k=i
  ·subst hi;rw[bZE (by omega)];rfl
  ·simp[hi]
def gA(f b:Int):Bool:=decide (f=64)||decide (b<4294967296)
def sp(f b:Int):Prop×List D:=((f=32\/f=64)/\0<=b/\b<18446744073709551616,[aN.aXM (aN.gW f),.s (.sc (.bool (gA f b&&decide (dJ.dV (aN.gW f)<=b)))),.s (.sc (.int .u64 (bif gA f b then b%dJ.dV (aN.gW f)else 0))),.s (.sc (.int .i64 (bif gA f b then 0 else 2)))])
theorem spec:fK E f77 aE (pN .i64) (pN .u64) sp:=by
 rintro f b ⟨hf,h0,h1⟩;obtain⟨n,rfl⟩:=bQT h0;refine(start f n).trans ((gP trivial).trans ?_);unfold sp
 try dsimp only
 rcases hf with rfl |rfl
 ·rw[show aN.gW 32=(32,24,-149,2143289345)from rfl]
  try dsimp only
  rw[Hw (by decide),aO (by decide),if_neg (by decide),show min (32:Int).toNat 64=32 from rfl,show dJ.dV (32,24,-149,2143289345)=2147483648 from rfl]
  by_cases hc:(n:Int)<4294967296
  ·have hp:gA 32 n=true:=by unfold gA;rw[decide_eq_true hc,bRQ]
   have a1:dX .and .u64 (n:Int) 2147483648=if(2147483648:Int)<=n then 2147483648 else 0:=by
    rw[Ro (by omega) (by omega) (by omega) (by omega),bPN];have:=Vl (n:=n) (k:=31) (by omega);rw[show(2147483648:Int).toNat=2^31 from rfl,this];split <;> split <;> first |rfl |omega
   have a2:dX .andNot .u64 (n:Int) 2147483648=(n:Int)%2147483648:=by
    rw[Rn (by omega) (by omega) (by omega) (by omega),bPN,show(2147483648:Int).toNat=2^31 from rfl,Lb (by omega) (by omega)];omega
   rw[eN,Lm,gP aN.two32,gP aN.two32,show dJ.dV (32,24,-149,2143289345)=2147483648 from rfl,a1,a2,hp]
   by_cases hd:(2147483648:Int)<=n
   ·rw[if_pos hd,decide_eq_true hd];rfl
   ·rw[if_neg hd,decide_eq_false hd];rfl
  ·have hp:gA 32 n=false:=by unfold gA;rw[decide_eq_false hc];rfl
   rw[pW,hp];rfl
 ·rw[show aN.gW 64=(64,53,-1074,9221120237041090561)from rfl]
  try dsimp only
  have hp:gA 64 n=true:=rfl;have a1:dX .and .u64 (n:Int) 9223372036854775808=if(9223372036854775808:Int)<=n then 9223372036854775808 else 0:=by
   rw[Ro (by omega) (by omega) (by omega) (by omega),bPN];have:=Vl (n:=n) (k:=63) (by omega);rw[show(9223372036854775808:Int).toNat=2^63 from rfl,this];split <;> split <;> first |rfl |omega
  have a2:dX .andNot .u64 (n:Int) 9223372036854775808=(n:Int)%9223372036854775808:=by
   rw[Rn (by omega) (by omega) (by omega) (by omega),bPN,show(9223372036854775808:Int).toNat=2^63 from rfl,Lb (by omega) (by omega)];omega
  rw[Hw (by decide),aI (by decide),Lm,gP aN.vG,gP aN.vG,show dJ.dV (64,53,-1074,9221120237041090561)=9223372036854775808 from rfl,a1,a2,hp]
  by_cases hd:(9223372036854775808:Int)<=n
  ·rw[if_pos hd,decide_eq_true hd];rfl
  ·rw[if_neg hd,decide_eq_false hd];rfl
def aG:cX:=orc2 (pN .i64) (pN .u64) sp
theorem ok:OK 77 aG:=(eB E aE (aA aN.ok (aA dJ.ok aD)) func77).lE rfl spec
end dZ
namespace cV
def E:=mE [] 7 [] [] []
def aE:=bd f94
theorem aW:Nk E aE:=nk
theorem start a b c d:aF E f94 aE [D.agg [sc (int i64 a),sc (int i64 b),sc (int i64 c),sc (int u64 d)]]=if i64.wrap (b-1)<0 then none else some [D.s (sc (int u64 (u64.wrap ((1:Int)*(↑((2:Nat)^min (i64.wrap (b-1)).toNat 64):Int)))))]:=eJ aW
def lS(s:Int×Int×Int×Int):Int:=if s.1=32 then 8388608 else 4503599627370496
def sp(s:Int×Int×Int×Int):Prop×List D:=(aN.tY s,[.s (.sc (.int .u64 (lS s)))])
theorem spec:gI E f94 aE (pG (.pair (sN .i64) (.pair (sN .i64) (.pair (sN .i64) (sN .u64))))) sp:=by
 intro s h;refine(start s.1 s.2.1 s.2.2.1 s.2.2.2).trans ?_;rcases h with rfl |rfl
 ·rfl
 ·rfl
def aG:cX:=orc1 (pG (.pair (sN .i64) (.pair (sN .i64) (.pair (sN .i64) (sN .u64))))) sp
theorem ok:OK 94 aG:=(eB E aE aD func94).nA rfl spec
end cV
namespace kT
def E:=mE [(135,dJ.aG),(94,cV.aG)] 8 [] [] []
def aE:=bd f81
theorem aW:Nk E aE:=nk
theorem start a b c d:aF E f81 aE [D.agg [sc (int i64 a),sc (int i64 b),sc (int i64 c),sc (int u64 d)]]=letI A:=(a,b,c,d);aP (aN.tY A) (aP (aN.tY A) (some [D.s (sc (int u64 (u64.wrap (dJ.dV A-cV.lS A))))])):=eJ aW
def mK(s:Int×Int×Int×Int):Int:=if s.1=32 then 2139095040 else 9218868437227405312
def sp(s:Int×Int×Int×Int):Prop×List D:=(aN.tY s,[.s (.sc (.int .u64 (mK s)))])
theorem spec:gI E f81 aE (pG (.pair (sN .i64) (.pair (sN .i64) (.pair (sN .i64) (sN .u64))))) sp:=by
 intro s h;refine(start s.1 s.2.1 s.2.2.1 s.2.2.2).trans ((gP h).trans ((gP h).trans ?_));rcases h with rfl |rfl
 ·rfl
 ·rfl
def aG:cX:=orc1 (pG (.pair (sN .i64) (.pair (sN .i64) (.pair (sN .i64) (sN .u64))))) sp
theorem ok:OK 81 aG:=(eB E aE (aA dJ.ok (aA cV.ok aD)) func81).nA rfl spec
end kT
namespace aZ
def E:=mE [(77,dZ.aG),(81,kT.aG)] 33 [15] [] []
def aE:=bd f42
theorem aW:Nk E aE:=nk
theorem start a b:aF E f42 aE [D.s (sc (int i64 a)),D.s (sc (int u64 b))]=letI F:=bif dZ.gA a b then(0:Int)else(2:Int);letI B:=aN.gW a;letI I:=int i64 B.snd.fst;letI H:=int u64 B.snd.snd.snd;letI G:=int i64 B.snd.snd.fst;letI C:=(B.fst,B.snd.fst,B.snd.snd.fst,B.snd.snd.snd);letI A:=some [D.agg [sc (int i64 B.fst),sc I,sc G,sc H],D.s (sc (bool (dZ.gA a b&&decide (dJ.dV B<=b)))),D.s (sc (int u64 (bif dZ.gA a b then b%dJ.dV B else(0:Int)))),D.s (sc (int i64 F))];aP ((a=32\/a=64)/\0<=b/\b<18446744073709551616) (aB (F==0) (aP (aN.tY C) (aB (decide (kT.mK C<=bif dZ.gA a b then b%dJ.dV B else(0:Int))) (some [D.agg [sc (int i64 B.fst),sc I,sc G,sc H],D.s (sc (bool false)),D.s (sc (int u64 0)),D.s (sc (int i64 6))]) A)) A):=eJ aW
def fA(f b:Int):Bool:=decide (b%dJ.dV (aN.gW f)<kT.mK (aN.gW f))
theorem Ep{f:Int}(h:f=32\/f=64):aN.tY (aN.gW f):=by
 rcases h with rfl |rfl
 ·exact .inl rfl
 ·exact .inr rfl
def sp(f b:Int):Prop×List D:=((f=32\/f=64)/\0<=b/\b<18446744073709551616,[aN.aXM (aN.gW f),.s (.sc (.bool (dZ.gA f b&&(fA f b&&decide (dJ.dV (aN.gW f)<=b))))),.s (.sc (.int .u64 (bif dZ.gA f b&&fA f b then b%dJ.dV (aN.gW f)else 0))),.s (.sc (.int .i64 (bif dZ.gA f b then(bif fA f b then 0 else 6)else 2)))])
theorem spec:fK E f42 aE (pN .i64) (pN .u64) sp:=by
 intro f b h;refine(start f b).trans ((gP h).trans ?_);unfold sp fA
 try dsimp only
 have ht:=Ep h.1;generalize aN.gW f=s at *;obtain⟨s1,s2,s3,s4⟩:=s;cases hp:dZ.gA f b with
 |false=>rfl
 |true =>
  try dsimp only[cond_true,bOS]
  rw[cC rfl,gP ht]
  by_cases hc:b%dJ.dV (s1,s2,s3,s4)<kT.mK (s1,s2,s3,s4)
  ·rw[aI,decide_eq_true hc];rfl
  ·rw[aO,decide_eq_false hc];rfl
def aG:cX:=orc2 (pN .i64) (pN .u64) sp
theorem ok:OK 42 aG:=(eB E aE (aA dZ.ok (aA kT.ok aD)) func42).lE rfl spec
end aZ
namespace iF
def E:=mE [(94,cV.aG)] 31 [] [] []
def aE:=bd f43
theorem aW:Nk E aE:=nk
theorem start a c d e b:aF E f43 aE [D.agg [sc (int i64 a),sc (int i64 c),sc (int i64 d),sc (int u64 e)],D.s (sc (int u64 b))]=letI B:=(a,c,d,e);letI C:=aN.tY B;letI A:=cV.lS B;aP C (if cV.lS B=0 then none else aP C (if cV.lS B=0 then none else aB (u64.wrap (b.tdiv A)==0) (some [D.s (sc (int u64 (b.tmod A))),D.s (sc (int i64 d))]) (aP C (some [D.s (sc (int u64 (u64.wrap (cV.lS B+b.tmod A)))),D.s (sc (int i64 (i64.wrap (i64.wrap (d+i64.wrap (u64.wrap (b.tdiv A)))-1))))])))):=eJ aW
def Ch(s:Int×Int×Int×Int)(n:Int):Int:=if n/cV.lS s=0 then n%cV.lS s else cV.lS s+n%cV.lS s
def Ei(s:Int×Int×Int×Int)(n:Int):Int:=if n/cV.lS s=0 then s.2.2.1 else s.2.2.1+n/cV.lS s-1
def sp(s:Int×Int×Int×Int)(n:Int):Prop×List D:=(aN.tY s/\0<=n/\n<9223372036854775808,[.s (.sc (.int .u64 (Ch s n))),.s (.sc (.int .i64 (Ei s n)))])
theorem spec:fK E f43 aE (pG (.pair (sN .i64) (.pair (sN .i64) (.pair (sN .i64) (sN .u64))))) (pN .u64) sp:=by
 rintro s n ⟨ht,h0,h1⟩;obtain⟨s1,s2,s3,s4⟩:=s;refine(start s1 s2 s3 s4 n).trans ?_;have hh:cV.lS (s1,s2,s3,s4)=8388608\/cV.lS (s1,s2,s3,s4)=4503599627370496:=by
  unfold cV.lS;split <;> simp
 have hs:-1074<=s3/\s3<=0:=by rcases ht with ht |ht <;> (cases ht;omega)
 unfold sp Ch Ei
 try dsimp only
 rw[gP ht,gP ht,gP ht];generalize cV.lS (s1,s2,s3,s4)=d at *;have t1:n.tdiv d=n/d:=Int.tdiv_eq_ediv_of_nonneg h0;have t2:n.tmod d=n%d:=Int.tmod_eq_emod_of_nonneg h0;have b1:0<=n/d/\n/d<9223372036854775808:=by rcases hh with rfl |rfl <;> omega
 have b2:0<=n%d/\n%d<4503599627370496:=by rcases hh with rfl |rfl <;> omega
 rw[t1,t2,aY,aY,wrap_u64 (n:=n/d)]
 by_cases hz:n/d=0
 ·rw[cC hz,if_pos hz,if_pos hz]
 ·rw[bP hz,if_neg hz,if_neg hz,wrap_u64,wrap_i64 (n:=n/d),wrap_i64 (n:=s3+n/d),wrap_i64]
def aG:cX:=orc2 (pG (.pair (sN .i64) (.pair (sN .i64) (.pair (sN .i64) (sN .u64))))) (pN .u64) sp
theorem ok:OK 43 aG:=(eB E aE (aA cV.ok aD) func43).lE rfl spec
end iF
namespace Oo
def E:=mE [(95,mM.aG),(50,iJ.aG)] 20 [17] [] []
def aE:=bd f44
theorem aW:Nk E aE:=nk
theorem start a b c:aF E f44 aE [D.s (sc (bool a)),D.s (sc (int u64 b)),D.s (sc (int i64 c))]=letI G:=(b !=0,M6.dg b.toNat);letI F:=wv (bif true then b !=0 else false,M6.dg b.toNat);letI C:=(false,M6.dg b.toNat);letI B:=bif fR (wv C) c then aK (wv C) c else((0:Int),(0:Int));letI A:=bif fR F c then aK F c else((0:Int),(0:Int));aB a (aP (0<=b/\b<18446744073709551616) (aP (jK G/\(-9223372036854775808:Int)<=c/\c<9223372036854775808) (some [D.agg [sc (bool (isNeg A.fst)),ints u64 (M6.dg A.fst.natAbs),sc (int i64 A.snd)],D.s (sc (int i64 (bif fR (wv G) c then(0:Int)else(5:Int))))]))) (aP (0<=b/\b<18446744073709551616) (aP (jK C/\(-9223372036854775808:Int)<=c/\c<9223372036854775808) (some [D.agg [sc (bool (isNeg B.fst)),ints u64 (M6.dg B.fst.natAbs),sc (int i64 B.snd)],D.s (sc (int i64 (bif fR (wv C) c then(0:Int)else(5:Int))))]))):=eJ aW
def sp(a:Bool)(b c:Int):Prop×List D:=((0<=b/\b<18446744073709551616)/\-9223372036854775808<=c/\c<9223372036854775808,dE (fR (zs a b.toNat) c) (aK (zs a b.toNat) c))
theorem spec:qR E f44 aE pB (pN .u64) (pN .i64) sp:=by
 rintro a b c ⟨hb,hc⟩;refine(start a b c).trans ?_;have hl:=eQ (n:=b.toNat) (k:=1) (dP.2 (by omega));have aKZ:∀s:Bool,wv (s,M6.dg b.toNat)=zs s b.toNat:=fun s=>by show zs s (M6.val (M6.dg b.toNat))=_;rw[M6.bN]
 have h0:jK (false,M6.dg b.toNat):=⟨M6.aX _,fun h=>Bool.noConfusion h,(by omega:(M6.dg b.toNat).length<=8192)⟩;cases a with
 |false =>
  rw[bF,gP hb,gP ⟨h0,hc⟩,aKZ];rfl
 |true =>
  have h1:jK (b !=0,M6.dg b.toNat):=⟨M6.aX _,fun h=>by
   have hb0:b≠0:=bne_iff_ne.1 h;show M6.val (M6.dg b.toNat)≠0;rw[M6.bN];omega,by show(M6.dg b.toNat).length<=8192;omega⟩
  have e:zs (b !=0) b.toNat=zs true b.toNat:=by
   by_cases hb0:b=0
   ·subst hb0;rfl
   ·rw[bne_iff_ne.2 hb0]
  rw[bT]
  try dsimp only[cond_true]
  rw[gP hb,gP ⟨h1,hc⟩,aKZ,e];rfl
def aG:cX:=orc3 pB (pN .u64) (pN .i64) sp
theorem ok:OK 44 aG:=(eB E aE (aA mM.ok (aA iJ.ok aD)) func44).zA rfl spec
end Oo
namespace bM
def E:=mE [(42,aZ.aG),(43,iF.aG),(44,Oo.aG)] 36 [15,33] [] []
def aE:=bd f12
theorem aW:Nk E aE:=nk
theorem start a b:aF E f12 aE [D.s (sc (int i64 a)),D.s (sc (int u64 b))]=letI H:=bif dZ.gA a b then bif aZ.fA a b then(0:Int)else(6:Int)else(2:Int);letI C:=aN.gW a;letI F:=(C.fst,C.snd.fst,C.snd.snd.fst,C.snd.snd.snd);letI B:=bif dZ.gA a b&&aZ.fA a b then b%dJ.dV C else(0:Int);letI I:=iF.Ei F B;letI G:=zs (dZ.gA a b&&(aZ.fA a b&&decide (dJ.dV C<=b))) (iF.Ch F B).toNat;letI A:=bif fR G I then aK G I else((0:Int),(0:Int));aP ((a=32\/a=64)/\0<=b/\b<18446744073709551616) (aB (H !=0) (some [D.agg [sc (bool false),sc (slice none 0 0),sc (int i64 0)],D.s (sc (int i64 H))]) (aP (aN.tY F/\(0<=bif dZ.gA a b&&aZ.fA a b then b%dJ.dV C else(0:Int))/\B<9223372036854775808) (aP ((0<=iF.Ch F B/\iF.Ch F B<18446744073709551616)/\(-9223372036854775808:Int)<=iF.Ei F B/\iF.Ei F B<9223372036854775808) (some [D.agg [sc (bool (isNeg A.fst)),ints u64 (M6.dg A.fst.natAbs),sc (int i64 A.snd)],D.s (sc (int i64 (bif fR G I then(0:Int)else(5:Int))))])))):=eJ aW
def lA(f b:Int):Int:=zs (decide (dJ.dV (aN.gW f)<=b)) (iF.Ch (aN.gW f) (b%dJ.dV (aN.gW f))).toNat
def lB(f b:Int):Int:=iF.Ei (aN.gW f) (b%dJ.dV (aN.gW f))
def sp(f b:Int):Prop×List D:=((f=32\/f=64)/\0<=b/\b<18446744073709551616,[dD (bif dZ.gA f b&&aZ.fA f b then aK (lA f b) (lB f b)else(0,0)),.s (.sc (.int .i64 (bif dZ.gA f b then(bif aZ.fA f b then 0 else 6)else 2)))])
theorem Tf{s:Int×Int×Int×Int}{n:Int}(_:aN.tY s)(_:0<=n):0<=iF.Ch s n/\iF.Ch s n<9007199254740992:=by
 unfold iF.Ch cV.lS;split <;> split <;> omega
theorem Tz{s:Int×Int×Int×Int}{n:Int}(ht:aN.tY s)(h0:0<=n)(h1:n<kT.mK s):-1074<=iF.Ei s n/\iF.Ei s n<1024:=by
 rcases ht with rfl |rfl
 ·unfold iF.Ei;have:n<2139095040:=h1;rw[show cV.lS (32,24,-149,2143289345)=8388608 from rfl]
  try dsimp only
  split <;> omega
 ·unfold iF.Ei;have:n<9218868437227405312:=h1;rw[show cV.lS (64,53,-1074,9221120237041090561)=4503599627370496 from rfl]
  try dsimp only
  split <;> omega
theorem aNV{z e:Int}(hz:z.natAbs<9007199254740992)(h0:-1074<=e)(h1:e<1024):fR z e=true:=by
 unfold fR
 by_cases hc:z=0
 ·rw[decide_eq_true hc,bRB]
 ·have h2:=zS (n:=z.natAbs) (by omega);have h3:bl z.natAbs<=53:=dP.2 (by omega);rw[decide_eq_true (show -1048576<=e+(tz z.natAbs:Int) by omega),decide_eq_true (show e+(tz z.natAbs:Int)<=1048576 by omega),bOS,bRQ]
theorem spec:El E f12 aE (pN .i64) (pN .u64) sp:=by
 intro f b h;have e:=(start f b).trans (gP h);have ht:=aZ.Ep h.1;have hb0:0<=b:=h.2.1;unfold sp
 try dsimp only
 cases hp:dZ.gA f b with
 |false =>
  rw[hp]at e;refine⟨_,e,.cons ?_ (fT.refl _)⟩;unfold dD;rw[bRA,cond_false,show((0,0):Int×Int).1.natAbs=0 from rfl,M6.bQ];exact vV.agg (.cons (yJ.refl _) (.cons (yJ.nil _) (uB.refl _)))
 |true =>
  rw[hp]at e;cases hq:aZ.fA f b with
  |false =>
   rw[hq]at e;refine⟨_,e,.cons ?_ (fT.refl _)⟩;unfold dD;rw[bRD,cond_false,show((0,0):Int×Int).1.natAbs=0 from rfl,M6.bQ];exact vV.agg (.cons (yJ.refl _) (.cons (yJ.nil _) (uB.refl _)))
  |true =>
   rw[hq]at e;have Ef:0<=b%dJ.dV (aN.gW f):=by
    unfold dJ.dV;split <;> omega
   have pS:b%dJ.dV (aN.gW f)<kT.mK (aN.gW f):=of_decide_eq_true hq;have hinf:kT.mK (aN.gW f)<=9218868437227405312:=by unfold kT.mK;split <;> omega
   have hm:=Tf ht Ef;have hx:=Tz ht Ef pS;rw[show(true&&true)=true from rfl]at e
   try dsimp only[cond_true]at e
   rw[show((aN.gW f).1,(aN.gW f).2.1,(aN.gW f).2.2.1,(aN.gW f).2.2.2)=aN.gW f from rfl]at e;rw[eN rfl,gP ⟨ht,Ef,by omega⟩,gP ⟨⟨hm.1,by omega⟩,by omega,by omega⟩]at e;refine⟨_,e,?_⟩;have hi:fR (lA f b) (lB f b)=true:=aNV (by unfold lA;rw[jR];omega) hx.1 hx.2;unfold lA lB at hi;unfold lA lB;rw[show(true&&(true&&decide (dJ.dV (aN.gW f)<=b)))=decide (dJ.dV (aN.gW f)<=b)from rfl,hi];exact fT.refl _
def aG:cX:=orc2 (pN .i64) (pN .u64) sp
theorem ok:OK 12 aG:=(eB E aE (aA aZ.ok (aA iF.ok (aA Oo.ok aD))) func12).aAJ rfl spec
end bM
namespace Vh
def bCT(p:Int×Int):Bool:=decide (cR ((p.1.natAbs:Int),p.2) (3,-2)<=0)
end Vh
end W
namespace R
open W.Arctan
theorem yW{k w:Nat}(hk:2<=k):∀f j p m,2^w/k^(2*j+1)<4^f->m<=p->(j%2=1->m+fP k w j<=p) ->
  ∃N J,rounds k f (2^w/k^(2*j+1)) p m (2*j+1) j=(N,J)/\J<=j+f/\(N:Rat)=(p:Rat)-(m:Rat)+(sum (fun i=>sg i*(fP k w i:Rat)) J-sum (fun i=>sg i*(fP k w i:Rat)) j)/\fP k w J=0
 |0,j,p,m,h,hm,_=>by
  have h0:2^w/k^(2*j+1)=0:=by simpa using h
  refine⟨p-m,j,rfl,bLR _,?_,by unfold fP;rw[h0,bVL]⟩;have:((p-m:Nat):Rat)=(p:Rat)-(m:Rat):=by
   have e:p-m+m=p:=by omega
   have e2:((p-m:Nat):Rat)+(m:Rat)=(p:Rat):=by exact_mod_cast e
   grind
  rw[this];grind
 |f+1,j,p,m,h,hm,ho=>by
  by_cases h0:2^w/k^(2*j+1)=0
  ·refine⟨p-m,j,by unfold rounds;rw[if_pos h0],by omega,?_,by unfold fP;rw[h0,bVL]⟩;have:((p-m:Nat):Rat)=(p:Rat)-(m:Rat):=by
    have e:p-m+m=p:=by omega
    have e2:((p-m:Nat):Rat)+(m:Rat)=(p:Rat):=by exact_mod_cast e
    grind
   rw[this];grind
  ·have e1:2^w/k^(2*j+1)/k/k=2^w/k^(2*(j+1)+1):=by
    rw[bRI,bRI,show 2*(j+1)+1=2*j+1+1+1 by omega,bQQ k (2*j+1+1),bQQ k (2*j+1),bQU]
   have e2:2^w/k^(2*(j+1)+1)<4^f:=by
    rw[<-e1,bRI];apply Nat.div_lt_of_lt_mul;have:4<=k*k:=bWF hk hk;rw[bQQ 4 f,Nat.mul_comm (4^f)]at h;exact bMR h (bNE _ this)
   have e3:fP k w (j+1)<=fP k w j:=by
    unfold fP;rw[<-e1];refine bMN (Nat.div_le_div_left (by omega) (by omega)) (Nat.div_le_div_right ?_);exact bMN (bUE _ _) (bUE _ _)
   have es:sum (fun i=>sg i*(fP k w i:Rat)) (j+1)=sum (fun i=>sg i*(fP k w i:Rat)) j+sg j*(fP k w j:Rat):=cY _ _;have ea:2^w/k^(2*j+1)/(2*j+1)=fP k w j:=rfl;unfold rounds;rw[if_neg h0,e1,ea,show 2*j+1+2=2*(j+1)+1 by omega]
   by_cases hc:(2*j+1)%4=1
   ·rw[if_pos hc];obtain⟨N,J,r1,r2,r3,r4⟩:=yW hk f (j+1) (p+fP k w j) m e2 (by omega) (fun _=>by omega);refine⟨N,J,r1,by omega,?_,r4⟩;have:sg j=1:=by unfold sg;rw[aU]
    rw[es,this]at r3;rw[bWD]at r3;grind
   ·rw[if_neg hc];have hj:=ho (by omega);obtain⟨N,J,r1,r2,r3,r4⟩:=yW hk f (j+1) p (m+fP k w j) e2 (by omega) (fun h=>by omega);refine⟨N,J,r1,by omega,?_,r4⟩;have:sg j=-1:=by unfold sg;rw[aY]
    rw[es,this]at r3;rw[bWD]at r3;grind
theorem Ri{k:Nat}(hk:2<=k){w:Nat}(hw:w<=1000000):(atan k w).2<=w+2/\ab (((atan k w).1:Rat)-((2^w:Nat):Rat)*Um k)<=((atan k w).2:Rat)+2:=by
 have h:2^w/k^(2*0+1)<4^(w+2):=by
  rw[Hm];exact bSG (bUE _ _) (bSK (by omega) (by omega))
 obtain⟨N,J,r1,r2,r3,r4⟩:=yW (w:=w) hk (w+2) 0 0 0 h (bLR _) (fun h=>by omega);have e:atan k w=(N,J):=by
  unfold atan;rw[<-r1];simp
 rw[e];have hJ:J<=1048576:=by omega
 have:=Ya hk w hJ r4;refine⟨by dsimp only;omega,?_⟩;dsimp only;have e0:sum (fun i=>sg i*(fP k w i:Rat)) 0=0:=rfl;rw[e0]at r3;have e1:(N:Rat)=sum (fun i=>sg i*(fP k w i:Rat)) J:=by
  have z:((0:Nat):Rat)=0:=by norm_cast
  rw[z]at r3;grind
 rw[e1];exact this
end R
namespace W
open Go AI M
namespace xI
def E:=mE [(144,fC.aG),(145,bZ.aG),(250,Ij.aG)] 55 [52] [(6,[0,1,6,7,20,21])] []
def aE:=bd f231
theorem aW:Nk E aE:=nk
def L6 a b (c:Nat) (d:List Int) e f g:=nG E f231 aE 6 [fW a,cG b,yD 2 c 22 d,cG e,bI f,bI g]
theorem start a b:aF E f231 aE [D.s (ints u64 a),D.s (sc (int u64 b))]=letI A:=(a.length:Int);letI B:=A+(1:Int);aP (a.length<=1099511627776) (aB (!fC.mU a) (some [D.s (sc (slice none 0 0)),D.s (sc (int i64 2))]) (if 0<=i64.wrap B/\i64.wrap B<=i64.wrap B/\i64.wrap B<=8796093022208 then xI.L6 a b (i64.wrap B).toNat (bNU (i64.wrap B).toNat (0:Int)) 0 A 0 else none)):=eJ aW
theorem yS a b c d e f g:L6 a b c d e f g=letI C:=a.getD g.toNat 0*b%18446744073709551616+e+0;letI B:=(a.length:Int);letI A:=d.set B.toNat e;aB (decide (g<f)) (if 0<=g/\g<B then aP (0<=a.getD g.toNat 0/\a.getD g.toNat 0<(18446744073709551616:Int)/\0<=b/\b<18446744073709551616) (aP (0<=a.getD g.toNat 0*b%18446744073709551616/\0<=e/\(0:Int)<=(0:Int)/\(0:Int)<=(1:Int)) (if 0<=g/\g<(c:Int)then xI.L6 a b c (d.set g.toNat (C%18446744073709551616)) (u64.wrap (a.getD g.toNat 0*b/18446744073709551616+C/18446744073709551616)) f (i64.wrap (g+1))else none))else none) (if 0<=B/\B<(c:Int)then aP (M6.cA A/\A.length<=1099511627776) (some [D.s (ints u64 (bif bZ.kU (M6.val A)then M6.dg (M6.val A)else [])),D.s (sc (int i64 (bif bZ.kU (M6.val A)then(0:Int)else(5:Int))))])else none):=lJ aW
theorem L{a:List Int}{b:Nat}(ha:M6.cA a)(hl:a.length<=8192)(hb:b<18446744073709551616):∀(k i:Nat) (pre:List Int) (c:Nat),i+k=a.length->pre.length=i->M6.cA pre->c<18446744073709551616 ->
  M6.val pre+18446744073709551616^i*c=M6.val (a.take i)*b ->
  L6 a b (a.length+1) (pre ++ bNU (k+1) 0) c a.length i=some [D.s (.ints .u64 (bif bZ.kU (M6.val a*b)then M6.dg (M6.val a*b)else [])),D.s (.sc (.int .i64 (bif bZ.kU (M6.val a*b)then 0 else 5)))]:=by
 intro k
 induction k with
 |zero =>
  intro i pre c hi hp hd hc hv;rw[M6.cE (by omega)]at hv;have hs:(pre ++ bNU (0+1) 0).set a.length (c:Int)=pre ++ [(c:Int)]:=by
   have:=wH (pre:=pre) (i:=a.length) (k:=0) (by omega) (c:Int);simpa using this
  have hval:M6.val (pre ++ [(c:Int)])=M6.val a*b:=by
   rw[M6.lD,hp,bPN];exact hv
  have bAI:M6.cA (pre ++ [(c:Int)]):=M6.lF hd ⟨bVK _,by omega⟩;rw[yS,aI,if_pos ⟨by omega,by omega⟩,bPN,hs,gP ⟨bAI,by simp;omega⟩,hval]
 |succ k ih =>
  intro i pre c hi hp hd hc hv;have g:=ha.get i;obtain⟨x,hx⟩:=bQT g.1;have Sc:x<18446744073709551616:=by omega
  have bDI:x*b<=18446744073709551615*18446744073709551615:=bWF (by omega) (by omega);have e1:((x:Int)*(b:Int))=((x*b:Nat):Int):=by rw[bRP]
  have pQ:M6.val (pre ++ [(((x*b%18446744073709551616+c)%18446744073709551616:Nat):Int)])+18446744073709551616^(i+1)*(x*b/18446744073709551616+(x*b%18446744073709551616+c)/18446744073709551616)=M6.val (a.take (i+1))*b:=by
   rw[M6.lD,hp,M6.cB,hx,bPN,bPN,Nat.add_mul,<-hv,bQQ,bQU (18446744073709551616^i) x b,bQU (18446744073709551616^i) 18446744073709551616];have e:(x*b%18446744073709551616+c)%18446744073709551616+18446744073709551616*(x*b/18446744073709551616+(x*b%18446744073709551616+c)/18446744073709551616)=x*b+c:=by omega
   have e2:=congrArg (18446744073709551616^i*·) e;simp only[Nat.mul_add]at e2 ⊢;omega
  have bEM:x*b/18446744073709551616+(x*b%18446744073709551616+c)/18446744073709551616<18446744073709551616:=by omega
  have w1:u64.wrap ((x:Int)*(b:Int)/18446744073709551616+((x:Int)*(b:Int)%18446744073709551616+(c:Int)+0)/18446744073709551616)=((x*b/18446744073709551616+(x*b%18446744073709551616+c)/18446744073709551616:Nat):Int):=by
   rw[e1,wrap_u64];omega
  have w2:((x:Int)*(b:Int)%18446744073709551616+(c:Int)+0)%18446744073709551616=(((x*b%18446744073709551616+c)%18446744073709551616:Nat):Int):=by rw[e1];omega
  rw[yS,aO,if_pos ⟨by omega,by omega⟩,bPN,hx,gP ⟨by omega,by omega,by omega,by omega⟩,gP ⟨by rw[e1];omega,by omega,by omega,by omega⟩,if_pos ⟨by omega,by omega⟩,wH hp,w1,w2,wrap_i64 (n:=(i:Int)+1),show(i:Int)+1=((i+1:Nat):Int)from rfl];exact ih (i+1) _ _ (by omega) (by simp[hp]) (M6.lF hd ⟨bVK _,by omega⟩) bEM pQ
def sp(a:List Int)(b:Int):Prop×List D:=(M6.cD a/\a.length<=8192/\0<=b/\b<18446744073709551616,[.s (.ints .u64 (bif bZ.kU (M6.val a*b.toNat)then M6.dg (M6.val a*b.toNat)else [])),.s (.sc (.int .i64 (bif bZ.kU (M6.val a*b.toNat)then 0 else 5)))])
theorem spec:fK E f231 aE (pI .u64) (pN .u64) sp:=by
 rintro a b ⟨ha,hl,h0,h1⟩;obtain⟨n,rfl⟩:=bQT h0;refine(start a n).trans ?_;have w:i64.wrap ((a.length:Int)+1)=((a.length+1:Nat):Int):=by rw[wrap_i64];rfl
 have:=L (b:=n) ha.iP hl (by omega) a.length 0 [] 0 (by omega) rfl M6.lV (by omega) (by simp[M6.val]);rw[gP,fC.lT ha hl,bNR,bF,w,if_pos ⟨by omega,by omega,by omega⟩,bPN];rw[List.nil_append]at this;exact this
def aG:cX:=orc2 (pI .u64) (pN .u64) sp
theorem ok:OK 231 aG:=(eB E aE (aA fC.ok (aA bZ.ok (aA Ij.ok aD))) func231).lE rfl spec
end xI
namespace Oi
def E:=mE [(102,sH.aG),(100,qT.aG),(95,mM.aG)] 26 [14,21] [] []
def aE:=bd f232
theorem aW:Nk E aE:=nk
theorem start a b:aF E f232 aE [D.s (ints u64 a),D.s (sc (int u64 b))]=letI B:=M6.dg b.toNat;letI C:=M6.val a+M6.val B;letI A:=M6.cD a/\M6.cD B/\a.length<=8192/\B.length<=8192;aP (0<=b/\b<18446744073709551616) (aP A (aP (0<=b/\b<18446744073709551616) (aP A (some [D.s (ints u64 (M6.dg (M6.val a-M6.val B))),D.s (ints u64 (bif bZ.kU C then M6.dg C else []))])))):=eJ aW
theorem aNQ{v n:Nat}(hv:v<18446744073709551616^8000)(hn:n<18446744073709551616):bZ.kU (v+n)=true:=by
 unfold bZ.kU;refine decide_eq_true (bMN (M6.cQ (k:=8001) ?_) (by decide));rw[bQQ];have h1:1<=18446744073709551616^8000:=bOQ (by decide);generalize 18446744073709551616^8000=X at *;omega
def sp(a:List Int)(b:Int):Prop×List D:=(M6.cD a/\a.length<=8000/\0<=b/\b<18446744073709551616,[.s (.ints .u64 (M6.dg (M6.val a-b.toNat))),.s (.ints .u64 (M6.dg (M6.val a+b.toNat)))])
theorem spec:fK E f232 aE (pI .u64) (pN .u64) sp:=by
 rintro a b ⟨hn,hl,h0,h1⟩;have hb:b.toNat<18446744073709551616:=by omega
 have lb:(M6.dg b.toNat).length<=1:=M6.cQ (k:=1) (by rw[Nat.pow_one];exact hb);refine(start a b).trans ?_;have lv:=M6.cK hn.iP;have ok:bZ.kU (M6.val a+b.toNat)=true:=aNQ (bMR lv (bOR (by decide) hl)) hb;rw[gP ⟨h0,h1⟩,gP ⟨hn,M6.aX _,by omega,by omega⟩,gP ⟨h0,h1⟩,gP ⟨hn,M6.aX _,by omega,by omega⟩,M6.bN,ok];rfl
def aG:cX:=orc2 (pI .u64) (pN .u64) sp
theorem ok:OK 232 aG:=(eB E aE (aA sH.ok (aA qT.ok (aA mM.ok aD))) func232).lE rfl spec
end Oi
namespace jQ
def E:=mE [(230,dA.aG),(231,xI.aG),(102,sH.aG),(232,Oi.aG)] 45 [42] [] []
def aE:=bd f198
theorem aW:Nk E aE:=nk
theorem start a:aF E f198 aE [D.s (sc (int i64 a))]=letI K:=Arctan.atan (bZC 5) a.toNat;letI I:=Arctan.atan (bZC 239) a.toNat;letI F:=M6.dg K.fst;letI G:=bif bZ.kU (M6.val F*16)then M6.dg (M6.val F*16)else [];letI C:=M6.dg I.fst;letI H:=bif bZ.kU (M6.val C*4)then M6.dg (M6.val C*4)else [];letI B:=u64.wrap ((16:Int)*(↑((2:Nat)+(3:Nat)*K.snd):Int))+u64.wrap ((4:Int)*(↑((2:Nat)+(3:Nat)*I.snd):Int));letI A:=M6.dg (M6.val G-M6.val H);aP (((2:Int)<=(5:Int)/\(5:Int)<(4294967296:Int))/\0<=a/\a<=150000) (aP (((2:Int)<=(239:Int)/\(239:Int)<(4294967296:Int))/\0<=a/\a<=150000) (aP (M6.cD F/\F.length<=8192/\(0:Int)<=(16:Int)/\(16:Int)<(18446744073709551616:Int)) (aP (M6.cD C/\C.length<=8192/\(0:Int)<=(4:Int)/\(4:Int)<(18446744073709551616:Int)) (aP (M6.cD G/\M6.cD H/\G.length<=8192/\H.length<=8192) (aP (M6.cD A/\A.length<=8000/\0<=u64.wrap B/\u64.wrap B<18446744073709551616) (some [D.s (ints u64 (M6.dg (M6.val A-(u64.wrap B).toNat))),D.s (ints u64 (M6.dg (M6.val A+(u64.wrap B).toNat)))])))))):=eJ aW
def mX(w:Nat):Nat:=(Arctan.atan 5 w).1*16-(Arctan.atan 239 w).1*4
def mO(w:Nat):Nat:=16*(2+3*(Arctan.atan 5 w).2)+4*(2+3*(Arctan.atan 239 w).2)
theorem aLR(w:Nat):mO w<=60*w+160:=by
 have h1:=(Arctan.Ax 5 w).2;have h2:=(Arctan.Ax 239 w).2;unfold mO;omega
def sp(w:Int):Prop×List D:=(0<=w/\w<=150000,[.s (.ints .u64 (M6.dg (mX w.toNat-mO w.toNat))),.s (.ints .u64 (M6.dg (mX w.toNat+mO w.toNat)))])
theorem spec:gI E f198 aE (pN .i64) sp:=by
 rintro w ⟨h0,h1⟩;refine(start w).trans ?_;obtain⟨q,rfl⟩:=bQT h0;have a1:=Arctan.Ax 5 q;have a2:=Arctan.Ax 239 q;have hO:=aLR q;unfold sp;have k1:bZC 5=5:=rfl;have k2:bZC 239=239:=rfl;simp only[bPN,k1,k2,M6.bN];have eO:u64.wrap (u64.wrap (16*((2+3*(Arctan.atan 5 q).2:Nat):Int))+u64.wrap (4*((2+3*(Arctan.atan 239 q).2:Nat):Int)))=((mO q:Nat):Int):=by
  rw[wrap_u64 (n:=16*_),wrap_u64 (n:=4*_),wrap_u64];unfold mO;omega
 rw[eO];have hX:mX q<=(Arctan.atan 5 q).1*16:=bSP _ _;unfold mX at hX ⊢;generalize (Arctan.atan 5 q).1=a at *;generalize (Arctan.atan 239 q).1=b at *;have hp:2^(2*q+4+4)=16*2^(2*q+4):=by rw[bQS];omega
 have b1:a*16<2^(2*q+4+4):=by rw[hp];omega
 have b2:b*4<2^(2*q+4+4):=by rw[hp];omega
 have b3:a*16-b*4<2^(2*q+4+4):=by omega
 have l3:(M6.dg (a*16-b*4)).length<=8000:=eQ (k:=8000) (bMN (dP.2 b3) (by omega));rw[gP ⟨⟨by decide,by decide⟩,by omega,by omega⟩,gP ⟨⟨by decide,by decide⟩,by omega,by omega⟩,gP ⟨M6.aX _,dA.jU a1.1 (by omega),by decide,by decide⟩,gP ⟨M6.aX _,dA.jU a2.1 (by omega),by decide,by decide⟩,
  dA.aLM b1 (by omega),dA.aLM b2 (by omega),cond_true,cond_true]
 simp only[M6.bN,bPN];rw[gP ⟨M6.aX _,M6.aX _,dA.jU b1 (by omega),dA.jU b2 (by omega)⟩,gP ⟨M6.aX _,l3,by omega,by omega⟩]
open R in
theorem num {w:Nat} (bFC:40<=w) (hw:w<=1000000):R.ab ((mX w:Rat)-((2^w:Nat):Rat)*R.pi)<=(mO w:Rat):=by
 obtain⟨j1,e1⟩:=R.Ri (k:=5) (by decide) hw;obtain⟨j2,e2⟩:=R.Ri (k:=239) (by decide) hw;have hp:=R.rJ.1;have hW:(1099511627776:Rat)<=((2^w:Nat):Rat):=by
  have:2^40<=2^w:=bOR (by decide) bFC;exact_mod_cast this
 have hO:(mO w:Rat)=16*(2+3*((Arctan.atan 5 w).2:Rat))+4*(2+3*((Arctan.atan 239 w).2:Rat)):=by
  unfold mO
  push_cast
  rfl
 have hJ1:((Arctan.atan 5 w).2:Rat)<=1000002:=by exact_mod_cast bMN j1 (by omega)
 have hJ2:((Arctan.atan 239 w).2:Rat)<=1000002:=by exact_mod_cast bMN j2 (by omega)
 have Xb:(0:Rat)<=((Arctan.atan 5 w).2:Rat):=by exact_mod_cast bRU _
 have aTU:(0:Rat)<=((Arctan.atan 239 w).2:Rat):=by exact_mod_cast bRU _
 rw[hO];clear hO;have h3:0<=R.pi-3:=by grind
 have hm:=R.aH (bQW (by decide:(0:Rat)<=1099511627776) hW) h3;have aTK:((2^w:Nat):Rat)*R.pi=16*(((2^w:Nat):Rat)*R.Um 5)-4*(((2^w:Nat):Rat)*R.Um 239):=by
  rw[show R.pi=16*R.Um 5-4*R.Um 239 from rfl];grind
 have bII:3*((2^w:Nat):Rat)<=((2^w:Nat):Rat)*R.pi:=by grind
 rw[R.dY]at e1 e2 ⊢;have bJY:(mX w:Rat)=((mX w:Nat):Rat):=rfl;unfold mX;generalize ((2^w:Nat):Rat)*R.pi=WP at *;generalize ((2^w:Nat):Rat)*R.Um 5=W5 at *;generalize ((2^w:Nat):Rat)*R.Um 239=W2 at *;generalize ((2^w:Nat):Rat)=W at *;clear hm h3 hp bJY;generalize ((Arctan.atan 5 w).2:Rat)=J1 at *;generalize ((Arctan.atan 239 w).2:Rat)=J2 at *;generalize (Arctan.atan 5 w).1=a at *;generalize (Arctan.atan 239 w).1=b at *;have hle:b*4<=a*16:=by
  have:(b:Rat)*4<=(a:Rat)*16:=by
   obtain⟨e3,e4⟩:=e1;obtain⟨e5,e6⟩:=e2;grind
  exact_mod_cast this
 have hX:((a*16-b*4:Nat):Rat)=(a:Rat)*16-(b:Rat)*4:=by
  have e:(a*16-b*4)+b*4=a*16:=by omega
  have e':((a*16-b*4:Nat):Rat)+(b:Rat)*4=(a:Rat)*16:=by exact_mod_cast e
  grind
 rw[hX];obtain⟨e3,e4⟩:=e1;obtain⟨e5,e6⟩:=e2;constructor <;> grind
def aG:cX:=orc1 (pN .i64) sp
theorem ok:OK 198 aG:=(eB E aE (aA dA.ok (aA xI.ok (aA sH.ok (aA Oi.ok aD)))) func198).nA rfl spec
end jQ
namespace uA
def E:=mE [(198,jQ.aG),(104,Bi.aG),(101,De.aG)] 39 [19,25] [(5,[0,4]),(3,[0])] [3]
def aE:=bd f152
theorem aW:Nk E aE:=nk
def J3 a:=kV E f152 aE 3 [bI a]
def L5 a b:=nG E f152 aE 5 [bI a,bI b]
theorem start a:aF E f152 aE [D.s (sc (int i64 a))]=letI A:=some [D.s (sc (slice none 0 0)),D.s (sc (int i64 1))];aB (decide (a<1)) A (aB (decide (70000<a)) A (uA.J3 a)):=eJ aW
theorem gH a:J3 a=uA.L5 a 48:=cJ aW
theorem Yc a b:L5 a b=letI G:=i64.wrap (a+b);letI B:=M6.dg (jQ.mX G.toNat+jQ.mO G.toNat);letI F:=M6.dg (M6.val B/(2:Nat)^b.toNat);letI A:=M6.dg (jQ.mX G.toNat-jQ.mO G.toNat);letI C:=M6.dg (M6.val A/(2:Nat)^b.toNat);aP (0<=i64.wrap (a+b)/\i64.wrap (a+b)<=150000) (aP (M6.cD A/\A.length<=8192/\0<=b/\b<4611686018427387904) (aP (M6.cD B/\B.length<=8192/\0<=b/\b<4611686018427387904) (aP (M6.cA C/\M6.cA F/\C.length<=1099511627776/\F.length<=1099511627776) (aB (mY (M6.val C) (M6.val F)==0) (some [D.s (ints u64 C),D.s (sc (int i64 0))]) (uA.L5 a (i64.wrap (b*2))))))):=lJ aW
def sp(p:Int):Prop×List D:=(1<=p/\p<=70000,[.s (.ints .u64 (M6.dg (R.pF p.toNat))),.s (.sc (.int .i64 0))])
theorem aSM(w:Nat):jQ.mX w<2^(2*w+8):=by
 have a1:=Arctan.Ax 5 w;have hp:2^(2*w+8)=16*2^(2*w+4):=by rw[show 2*w+8=2*w+4+4 by omega,bQS];omega
 have:jQ.mX w<=(Arctan.atan 5 w).1*16:=bSP _ _;omega
theorem spec:gI E f152 aE (pN .i64) sp:=by
 rintro p ⟨h0,h1⟩;refine(start p).trans ?_;obtain⟨q,rfl⟩:=bQT (show 0<=p by omega);have hX:=jQ.num (w:=q+48) (by omega) (by omega);have hO:=jQ.aLR (q+48);have lX:=aSM (q+48);have bKO:2*jQ.mO (q+48)<=2^(48-24):=by
  have:2^(48-24)=16777216:=by decide
  omega
 obtain⟨o1,o2,o3⟩:=R.aSC (q:=q) (g:=48) (by omega) (by omega) bKO hX;have ew:i64.wrap ((q:Int)+48)=((q+48:Nat):Int):=by rw[wrap_i64];omega
 unfold sp;rw[aI,aI,gH,Yc,ew,bPN,bPN];have hp:2^(2*(q+48)+9)=2*2^(2*(q+48)+8):=by rw[bQQ];omega
 have bFC:2^40<=2^(2*(q+48)+8):=fD;have l1:=dA.jU (n:=jQ.mX (q+48)-jQ.mO (q+48)) (k:=2*(q+48)+8) (by omega) (by omega);have l2:=dA.jU (n:=jQ.mX (q+48)+jQ.mO (q+48)) (k:=2*(q+48)+9) (by omega) (by omega);rw[gP ⟨by omega,by omega⟩,gP ⟨M6.aX _,l1,by decide,by decide⟩,gP ⟨M6.aX _,l2,by decide,by decide⟩];simp only[M6.bN,show bZC 48=48 from rfl,o2,o3];have l3:(M6.dg (R.pF q)).length<=8192:=by
  rw[<-o2];exact dA.jU (k:=2*(q+48)+8) (bSG (bUE _ _) (by omega)) (by omega)
 rw[gP ⟨M6.iE _,M6.iE _,by omega,by omega⟩,cC (by unfold mY;simp)]
def aG:cX:=orc1 (pN .i64) sp
theorem ok:OK 152 aG:=(eB E aE (aA jQ.ok (aA Bi.ok (aA De.ok aD))) func152).nA rfl spec
end uA
namespace aHE
def bKV(p:Int×Int)(n:Int):Int:=if 0<=p.2+n then p.1*((2^(p.2+n).toNat:Nat):Int)else p.1/((2^(-p.2-n).toNat:Nat):Int)
end aHE
namespace aVT
def bBU(w:Int)(neg:Bool)(u v:Nat):Nat:=u/v+bif mW.mT w neg (decide (u/v%2=1)) (decide (u%v≠0)) (mY (u%v) (v-u%v))then 1 else 0
end aVT
namespace aHD
def aXP(p:Int×Int):Int:=if 0>p.2+(bl p.1.natAbs:Nat)then 0 else p.2+(bl p.1.natAbs:Nat)
def rG(p:Int×Int)(w:Int):Int:=w+aXP p+8
def rF(p:Int×Int)(w:Int):Nat:=R.pF (rG p w).toNat
def rX(p:Int×Int)(w:Int):Int:=aHE.bKV p (rG p w)*2
def nK(X:Int)(f:Nat):Int:=zs (isNeg X) (aVT.bBU 2 false X.natAbs f)
def rK(p:Int×Int)(w:Int):Int:=nK (rX p w) (rF p w)
def rR(p:Int×Int)(w:Int):Int:=rX p w-rK p w*(rF p w:Nat)
def rO(p:Int×Int)(w:Int):Int:=((rK p w).natAbs:Nat)+3
def rM(p:Int×Int)(w:Int):Int:=(rR p w-rO p w)/((2^(rG p w-w+1).toNat:Nat):Int)
theorem aKM{n k m:Nat}(h:bl n<=m):bl (n*2^k)<=m+k:=dP.2 (by rw[bQS];exact Nat.mul_lt_mul_of_pos_right (dP.1 h) (bOQ (by decide)))
end aHD
namespace aKT
def E:=mE [(96,gG.aG),(151,Db.aG),(102,sH.aG),(99,xJ.aG)] 60 [28,50,57] [(3,[2,3,4])] [3]
def aE:=bd f109
theorem aW:Nk E aE:=nk
def J3 a b c d e:=kV E f109 aE 3 [dG 0 27 [cI a,eT b],dG 1 27 [cI c,eT d],dG 2 27 [cI e,sc (slice none 0 0)]]
theorem start a b c d:aF E f109 aE [D.agg [sc (bool a),ints u64 b],D.agg [sc (bool c),ints u64 d]]=letI A:=some [D.agg [sc (bool false),sc (slice none 0 0)],D.s (sc (int i64 2))];aP (b.length<=1099511627776) (aB (!gG.qD (a,b)) A (aP (d.length<=1099511627776) (aB (!gG.qD (c,d)) A (aKT.J3 a b c d false)))):=eJ aW
theorem gH a b c d e:J3 a b c d e=letI A:=M6.dg (M6.val b%M6.val d);letI F:=M6.dg (M6.val d-M6.val A);letI C:=bif (if M6.val d<M6.val A then(3:Int)else(0:Int))==0 then zs c (M6.val F)else(0:Int);letI B:=aP (M6.cD A/\A.length<=1099511627776) (some [D.agg [sc (bool (isNeg (zs c (M6.val A)))),ints u64 (M6.dg (zs c (M6.val A)).natAbs)],D.s (sc (int i64 0))]);aB ((d.length:Int)==(0:Int)) (some [D.agg [sc (bool false),sc (slice none 0 0)],D.s (sc (int i64 4))]) (aP (M6.cD b/\b.length<=8192/\M6.cD d/\1<=d.length/\d.length<=8192) (aB (a !=c) (aB (decide (0<(A.length:Int))) (aP (M6.cD d/\M6.cD A/\d.length<=8192/\A.length<=8192) (aP (M6.cD F/\F.length<=1099511627776) (some [D.agg [sc (bool (isNeg C)),ints u64 (M6.dg C.natAbs)],D.s (sc (int i64 (if M6.val d<M6.val A then(3:Int)else(0:Int))))]))) B) B)):=cJ aW
def sp(x y:Bool×List Int):Prop×List D:=(jK x/\jK y/\y.1=false/\1<=y.2.length,[wD (wv x%wv y),.s (.sc (.int .i64 0))])
theorem spec:fK E f109 aE vI vI sp:=by
 rintro x y ⟨hx,hy,hn,h1⟩;refine(start x.1 x.2 y.1 y.2).trans ?_;have l1:=hx.len;have l2:=hy.len;have f1:=gG.nH hx;have f2:=gG.nH hy;have b2:=hy.bl;obtain⟨p,a⟩:=x;obtain⟨q,b⟩:=y;have n1:M6.cD a:=hx.1;have n2:M6.cD b:=hy.1
 try dsimp only at *
 subst hn;unfold sp
 try dsimp only
 have hz:M6.val b≠0:=fun h=>by have:=(M6.cO n2).2 h;omega
 have hm:=bNZ (M6.val a) (show 0<M6.val b by omega);have hl:=eQ (n:=M6.val a%M6.val b) (k:=8192) (bMN (gD (Nat.le_of_lt hm)) b2);have aWQ:=eQ (n:=M6.val b-M6.val a%M6.val b) (k:=8192) (bMN (gD (bSP _ _)) b2);have hb:wv (false,b)=(M6.val b:Int):=Bo (x:=(false,b)) rfl;have zf:∀n:Nat,zs false n=(n:Int):=fun n=>rfl
 rw[gP,f1,bNR,bF,gP,f2,bNR,bF,gH,bP,gP ⟨n1,l1,n2,h1,l2⟩];simp only[M6.bN];cases p with
 |false =>
  have ha:wv (false,a)=(M6.val a:Int):=Bo (x:=(false,a)) rfl;rw[show(false !=false)=false from rfl,bF,gP ⟨M6.aX _,by omega⟩,ha,hb,<-Int.natCast_emod];rfl
 |true =>
  have ha:wv (true,a)=-(M6.val a:Int):=Lp (x:=(true,a)) rfl;rw[show(true !=false)=true from rfl,bT]
  by_cases hr:M6.val a%M6.val b=0
  ·have e0:-(M6.val a:Int)%(M6.val b:Int)=0:=by
    have aJM:=bQX (M6.val a) (M6.val b);rw[hr,bMS]at aJM;rw[<-aJM,bRP,<-Int.mul_neg];exact Int.mul_emod_right _ _
   rw[hr,M6.bQ,aI (by simp),gP ⟨M6.Fc,by simp⟩,ha,hb,e0];rfl
  ·have hd:(M6.dg (M6.val a%M6.val b)).length≠0:=fun h=>hr (M6.fU.1 h)
   have e0:-(M6.val a:Int)%(M6.val b:Int)=((M6.val b-M6.val a%M6.val b:Nat):Int):=by
    have aJM:=bQX (M6.val a) (M6.val b);have e1:-(M6.val a:Int)=((M6.val b-M6.val a%M6.val b:Nat):Int)+(M6.val b:Int)*(-(((M6.val a/M6.val b+1:Nat)):Int)):=by
     have e2:((M6.val b*(M6.val a/M6.val b)+M6.val a%M6.val b:Nat):Int)=(M6.val a:Int):=by rw[aJM]
     rw[bZH,bRP]at e2;rw[Int.mul_neg,bZH,Int.mul_add];generalize M6.val a%M6.val b=r at *;generalize (M6.val b:Int)*((M6.val a/M6.val b:Nat):Int)=z at *;omega
    rw[e1,Int.add_mul_emod_self_left];exact Int.emod_eq_of_lt (by omega) (by omega)
   rw[aO,gP ⟨n2,M6.aX _,l2,hl⟩,gP ⟨M6.aX _,by omega⟩,aY,ha,hb,e0];rfl
def aG:cX:=orc2 vI vI sp
theorem ok:OK 109 aG:=(eB E aE (aA gG.ok (aA Db.ok (aA sH.ok (aA xJ.ok aD)))) func109).lE rfl spec
end aKT
namespace zO
def E:=mE [(96,gG.aG)] 40 [] [(8,[1,4])] [8]
def aE:=bd f110
theorem aW:Nk E aE:=nk
def J8 a b c:=kV E f110 aE 8 [dG 0 27 [cI a,eT b],cG c]
theorem start a b:aF E f110 aE [D.agg [sc (bool a),ints u64 b]]=letI F:=zO.J8 a b (b.getD 0 0);letI C:=(b.length:Int);letI B:=sc (int i64 0);letI A:=some [D.s B,D.s (sc (int i64 5))];aP (b.length<=1099511627776) (aB (!gG.qD (a,b)) (some [D.s B,D.s (sc (int i64 2))]) (aB (C==(0:Int)) (some [D.s B,D.s B]) (if(0:Int)<=(0:Int)/\0<C then aB (decide (1<C)) A (aB (decide (9223372036854775808<b.getD 0 0)) A (aB (b.getD 0 0==(9223372036854775808:Int)) (aB (!a) A F) F))else none))):=eJ aW
theorem vQ a b c:J8 a b c=aB a (some [D.s (sc (int i64 (i64.wrap (u64.wrap ((0:Int)-c))))),D.s (sc (int i64 0))]) (some [D.s (sc (int i64 (i64.wrap c))),D.s (sc (int i64 0))]):=cJ aW
def uH(z:Int):Bool:=decide (-9223372036854775808<=z)&&decide (z<9223372036854775808)
def sp(x:Bool×List Int):Prop×List D:=(jK x,[.s (.sc (.int .i64 (bif uH (wv x)then wv x else 0))),.s (.sc (.int .i64 (bif uH (wv x)then 0 else 5)))])
theorem spec:gI E f110 aE vI sp:=by
 intro x h;have h:jK x:=h;refine(start x.1 x.2).trans ?_;obtain⟨b,a⟩:=x;have hl:a.length<=8192:=h.len;have h1:M6.cD a:=h.1;have g:=h1.iP.get 0;have hf:=gG.nH h
 try dsimp only
 unfold sp
 try dsimp only
 rw[gP,hf,bNR,bF];have yes:∀z:Int,-9223372036854775808<=z->z<9223372036854775808->uH z=true:=fun z h h'=>by unfold uH;rw[decide_eq_true h,decide_eq_true h'];rfl
 have no:∀z:Int,(z < -9223372036854775808\/9223372036854775808<=z)->uH z=false:=fun z h=>by
  unfold uH;rcases h with h |h
  ·rw[decide_eq_false (by omega),bRA]
  ·rw[decide_eq_false (show ¬z<_ by omega),bRD]
 by_cases hz:a.length=0
 ·have hv:=(M6.cO h1).1 hz;have:wv (b,a)=0:=by
   have:=iO (b,a);rw[show M6.val (b,a).2=0 from hv]at this;omega
  rw[cC,this];rfl
 ·rw[bP,if_pos ⟨by omega,by omega⟩];have aYS:M6.val a≠0:=fun h=>hz ((M6.cO h1).2 h)
  have aEF:=iO (b,a)
  try dsimp only at aEF
  by_cases h2:1<a.length
  ·have yL:18446744073709551616<=M6.val a:=by
    have:=M6.xV (n:=M6.val a) (k:=1) (by rw[aCU h1];exact h2);omega
   rw[aO,no _ (by omega)];rfl
  ·have hv:M6.val a=(a.getD 0 0).toNat:=by
    have:=M6.cB (a:=a) 0;rw[M6.cE (by omega)]at this;simpa [M6.val] using this
   rw[aI];generalize a.getD 0 0=w at *
   by_cases h3:9223372036854775808<w
   ·rw[aO h3,no _ (by omega)];rfl
   ·rw[aI h3,vQ];cases b with
    |true =>
     have hw:wv (true,a)=-(M6.val a:Int):=Lp (x:=(true,a)) rfl;have e1:i64.wrap (u64.wrap (0-w))=wv (true,a):=by rw[hw,eE,Dg];omega
     rw[yes _ (by omega) (by omega),bNR,bF,bT,e1];unfold aB;cases (w==9223372036854775808) <;> rfl
    |false =>
     have hw:wv (false,a)=(M6.val a:Int):=Bo (x:=(false,a)) rfl;rw[Bool.not_false,bT,bF]
     by_cases h4:w=9223372036854775808
     ·rw[cC h4,no _ (by omega)];rfl
     ·rw[bP h4,yes _ (by omega) (by omega),wrap_i64];rw[show w=wv (false,a)from by omega];rfl
def aG:cX:=orc1 vI sp
theorem ok:OK 110 aG:=(eB E aE (aA gG.ok aD) func110).nA rfl spec
end zO
namespace qW
def aRI(b:Int):Int×Int:=aK (bM.lA 64 b) (bM.lB 64 b)
def cW(p:Int):Int:=if 72>p+8 then 72 else p+8
def cM(x:Int×Int)(p:Int):Int:=aHD.rM x (cW p)/((2^(cW p-(p+8)).toNat:Nat):Int)
def bFH(x:Int×Int)(p:Int):Int×Int:=bif Vh.bCT x then x else aK (cM x p) (-(p+8))
def bFI(x:Int×Int)(p:Int):Int×Int:=bif Vh.bCT x then x else aK (cM x p+4) (-(p+8))
end qW
end W
namespace M
open Go AI W
theorem aBK{q:Rat}{a b:Int}(h1:R.pz a<=q)(h2:q<R.pz (a+1))(h3:R.pz b<=q)(h4:q<R.pz (b+1)):a=b:=by
 have:R.pz a<R.pz (b+1):=by grind
 have:=R.xQ.1 this;have:R.pz b<R.pz (a+1):=by grind
 have:=R.xQ.1 this;omega
theorem aMW{p q:Int×Int}(hp:p.1≠0)(h:R.qz p=R.qz q):bC p=bC q:=by
 have hq:q.1≠0:=Kp (by rw[<-h];exact Pl hp);obtain⟨a,b⟩:=rE hp;obtain⟨c,d⟩:=rE hq;rw[h]at a b;exact aBK a b c d
structure aQM(z e:Int):Prop where
 z0:z≠0
 z1:z.natAbs<9007199254740992
 e0:-1074<=e
 e1:e<=971
theorem aKR(z:Int):R.ab (z:Rat)=(z.natAbs:Rat):=by
 unfold R.ab
 by_cases hz:0<=z
 ·rw[if_pos (by exact_mod_cast hz),<-bWJ];congr 1;omega
 ·rw[if_neg (by intro hc;exact hz (by exact_mod_cast hc)),<-bWJ,<-bWR];congr 1;omega
structure aWB(x:Int×Int):Prop where
 uK:iL x
 ne:x.1≠0
 bl:bl x.1.natAbs<=53
 t0:-1074<=bC x
 t1:bC x<=1023
 e0:-1074<=x.2
 e1:x.2<=1023
 fit:R.Fit (R.qz x)
 aRJ:¬R.ab (R.qz x)<=3/4->-53<=x.2/\R.bCF (R.qz x)
theorem bBV{z e:Int}(h:aQM z e):aWB (aK z e):=by
 obtain⟨z0,z1,e0,e1⟩:=h;have bz:bl z.natAbs<=53:=dP.2 (by have:(2:Nat)^53=9007199254740992:=rfl;omega);have b0:=rQ (n:=z.natAbs) (by omega);have q:=mF z e;have q':R.qz (aK z e)=R.qz (z,e):=q;have ne:(aK z e).1≠0:=fun hz=>z0 (dC.1 hz)
 have tt:=aMW ne q';have t':bC (z,e)=e+(bl z.natAbs:Nat)-1:=rfl;have ge:=mN (e:=e) z0;have bb:=qL z e;have b1:=rQ (n:=(aK z e).1.natAbs) (by omega);have te:bC (aK z e)=(aK z e).2+(bl (aK z e).1.natAbs:Nat)-1:=rfl;have uK:iL (aK z e):=fF (fJ (by omega) (by omega)) (by omega);have num:¬R.ab (R.qz (aK z e))<=3/4->-53<=e/\R.bCF (R.qz (aK z e)):=by
  intro hb;have he:-53<=e:=by
   refine Int.not_lt.1 fun hn=>hb ?_
   have h2:=(rE (p:=(z,e)) z0).2;have:R.pz (bC (z,e)+1)<=R.pz (-1):=R.dO (by omega);have p1:R.pz (-1)*2=1:=by
    have:=R.nD 0;rw[R.fB]at this;exact this
   rw[q'];grind
  refine⟨he,(z.natAbs:Int),e,by omega,by omega,he,e1,?_⟩;rw[q',bWJ,<-aKR];show(z:Rat)*R.pz e=_\/(z:Rat)*R.pz e=_;unfold R.ab;split
  ·left;rfl
  ·right;grind
 refine⟨uK,ne,by omega,by omega,by omega,by omega,by omega,?_,fun hb=>⟨by have:=(num hb).1;omega,(num hb).2⟩⟩
 by_cases c:R.ab (R.qz (aK z e))<=3/4
 ·exact Or.inr c
 ·exact Or.inl (num c).2
end M
namespace AI
open Go Go.RowKit
def t2{β:Type}(x y:β):Nat->β
 |0=>x
 |_+1=>y
def t4{β:Type}(x y z u:β):Nat->β
 |0=>x
 |1=>y
 |2=>z
 |_+3=>u
def bCZ{β:Type}(p:SPar β)(d:β):kN (β) where
 put x:=.rows p.n 1 fun _=>p.put x
 get
  | .rows sz n g=>if n=1/\sz=p.n then(p.get (g 0)).bind fun x=>some x else none
  |_=>none
 le:=by
  intro dd x h
  match dd,h with
  | .rows sz n g,h =>
   dsimp only at h;split at h
   ·rename_i hc;obtain⟨rfl,hc⟩:=hc;simp only[bNY]at h;obtain⟨y0,h0,h⟩:=h;cases h;have wT:allB 1 (fun i=>(p.get (g i)).isSome)=true:=by simp[allB,h0]
    have e:=(pR p d).le (d:=.rows sz 1 g) (x:=(1,fun i=>(p.get (g i)).getD d)) (if_pos ⟨hc,wT⟩);rintro Y w v hv;obtain⟨A,c,e1,e2,e3⟩:=e Y w v hv;refine⟨A,c,e1,e2,fun i hi=>?_⟩;have e4:=e3 i hi;obtain rfl:i=0:=by omega
    dsimp only at e4;rw[h0]at e4;exact e4
   ·cases h
def aAN{β:Type}(p:SPar β)(d:β):kN (β×β) where
 put x:=.rows p.n 2 fun i=>p.put (t2 x.1 x.2 i)
 get
  | .rows sz n g=>if n=2/\sz=p.n then(p.get (g 0)).bind fun x=>(p.get (g 1)).bind fun y=>some (x,y)else none
  |_=>none
 le:=by
  intro dd x h
  match dd,h with
  | .rows sz n g,h =>
   dsimp only at h;split at h
   ·rename_i hc;obtain⟨rfl,hc⟩:=hc;simp only[bNY]at h;obtain⟨y0,h0,y1,h1,h⟩:=h;cases h;have wT:allB 2 (fun i=>(p.get (g i)).isSome)=true:=by simp[allB,h0,h1]
    have e:=(pR p d).le (d:=.rows sz 2 g) (x:=(2,fun i=>(p.get (g i)).getD d)) (if_pos ⟨hc,wT⟩);rintro Y w v hv;obtain⟨A,c,e1,e2,e3⟩:=e Y w v hv;refine⟨A,c,e1,e2,fun i hi=>?_⟩;have e4:=e3 i hi;obtain rfl |rfl:i=0\/i=1:=by omega
    ·dsimp only at e4;rw[h0]at e4;exact e4
    ·dsimp only at e4;rw[h1]at e4;exact e4
   ·cases h
def aLK{β:Type}(p:SPar β)(d:β):kN (β×β×β×β) where
 put x:=.rows p.n 4 fun i=>p.put (t4 x.1 x.2.1 x.2.2.1 x.2.2.2 i)
 get
  | .rows sz n g=>if n=4/\sz=p.n then(p.get (g 0)).bind fun x=>(p.get (g 1)).bind fun y=>(p.get (g 2)).bind fun z=>(p.get (g 3)).bind fun u=>some (x,y,z,u)else none
  |_=>none
 le:=by
  intro dd x h
  match dd,h with
  | .rows sz n g,h =>
   dsimp only at h;split at h
   ·rename_i hc;obtain⟨rfl,hc⟩:=hc;simp only[bNY]at h;obtain⟨y0,h0,y1,h1,y2,h2,y3,h3,h⟩:=h;cases h;have wT:allB 4 (fun i=>(p.get (g i)).isSome)=true:=by simp[allB,h0,h1,h2,h3]
    have e:=(pR p d).le (d:=.rows sz 4 g) (x:=(4,fun i=>(p.get (g i)).getD d)) (if_pos ⟨hc,wT⟩);rintro Y w v hv;obtain⟨A,c,e1,e2,e3⟩:=e Y w v hv;refine⟨A,c,e1,e2,fun i hi=>?_⟩;have e4:=e3 i hi;obtain rfl |rfl |rfl |rfl:i=0\/i=1\/i=2\/i=3:=by omega
    ·dsimp only at e4;rw[h0]at e4;exact e4
    ·dsimp only at e4;rw[h1]at e4;exact e4
    ·dsimp only at e4;rw[h2]at e4;exact e4
    ·dsimp only at e4;rw[h3]at e4;exact e4
   ·cases h
end AI
namespace W
open Go AI M
namespace xE
def E:=mE [] 9 [] [] []
def aE:=bd f161
theorem aW:Nk E aE:=nk
theorem start a:aF E f161 aE [D.s (sc (int i64 a))]=aB (decide (1<=a)) (some [D.s (sc (bool (decide (a<=70000))))]) (some [D.s (sc (bool false))]):=eJ aW
def sp(p:Int):Prop×List D:=(True,[.s (.sc (.bool (decide (1<=p)&&decide (p<=70000))))])
theorem spec:gI E f161 aE (pN .i64) sp:=by
 intro p h;refine(start p).trans ?_;unfold sp aB;cases (decide ((1:Int)<=p)) <;> rfl
def aG:cX:=orc1 (pN .i64) sp
theorem ok:OK 161 aG:=(eB E aE aD func161).nA rfl spec
end xE
namespace uZ
def E:=mE [(161,xE.aG),(67,rZ.aG)] 20 [] [(4,[10,11,12])] []
def aE:=bd f117
theorem aW:Nk E aE:=nk
def L4(a:Nat)(b:Nat->Bool)(c:Nat->List Int)(d:Nat->Int)(e:Nat->Bool)(f:Nat->List Int)(g:Nat->Int) h j:=nG E f117 aE 4 [(A.v (V.one (L.rows 6 a fun i=>[sc (bool (b i)),ints u64 (c i),sc (int i64 (d i)),sc (bool (e i)),ints u64 (f i),sc (int i64 (g i))])),none),bI h,bI j]
theorem start p (a:rY) (b:rY):aF E f117 aE [D.s (sc (int i64 p)),D.rows 6 2 fun i=>[sc (bool (t2 a b i).fst),ints u64 (t2 a b i).snd.fst,sc (int i64 (t2 a b i).snd.snd.fst),sc (bool (t2 a b i).snd.snd.snd.fst),ints u64 (t2 a b i).snd.snd.snd.snd.fst,sc (int i64 (t2 a b i).snd.snd.snd.snd.snd)]]=aP True (aB (!(decide (1<=p)&&decide (p<=70000))) (some [D.s (sc (int i64 1))]) (uZ.L4 2 (fun i=>(t2 a b i).fst) (fun i=>(t2 a b i).snd.fst) (fun i=>(t2 a b i).snd.snd.fst) (fun i=>(t2 a b i).snd.snd.snd.fst) (fun i=>(t2 a b i).snd.snd.snd.snd.fst) (fun i=>(t2 a b i).snd.snd.snd.snd.snd) 2 0)):=eJ aW
theorem kS a b c d e f g h j:L4 a b c d e f g h j=aB (decide (j<h)) (if 0<=j/\j<(a:Int)then aP (eG (b j.toNat,c j.toNat,d j.toNat,e j.toNat,f j.toNat,g j.toNat)) (uZ.L4 a (fun i=>b i) (fun i=>c i) (fun i=>d i) (fun i=>e i) (fun i=>f i) (fun i=>g i) h (i64.wrap (j+1)))else none) (some [D.s (sc (int i64 0))]):=lJ aW
def sp(p:Int)(a:rY×rY):Prop×List D:=(eG a.1/\eG a.2,[.s (.sc (.int .i64 (if 1<=p/\p<=70000 then 0 else 1)))])
theorem L(n:Nat)(f:Nat->rY)(hn:n<=1000)(hf:∀i,i<n->eG (f i)):∀d k:Nat,k+d=n->L4 n (fun i=>(f i).1) (fun i=>(f i).2.1) (fun i=>(f i).2.2.1) (fun i=>(f i).2.2.2.1) (fun i=>(f i).2.2.2.2.1) (fun i=>(f i).2.2.2.2.2) (n:Int) (k:Int)=some [D.s (.sc (.int .i64 0))]
 |0,k,h=>by rw[kS,aI]
 |d+1,k,h=>by
  have e:i64.wrap ((k:Int)+1)=((k+1:Nat):Int):=by rw[wrap_i64];omega
  rw[kS,aO,aU,bPN,gP (hf k (by omega)),e];exact L n f hn hf d (k+1) (by omega)
theorem spec:fK E f117 aE (pN .i64) (aAN (.pair sB (.pair (sI .u64) (.pair (sN .i64) (.pair sB (.pair (sI .u64) (sN .i64)))))) (false,[],0,false,[],0)) sp:=by
 intro p a h;have hf:∀i,i<2->eG (t2 a.1 a.2 i):=fun i hi=>by
  obtain rfl |rfl:i=0\/i=1:=by omega
  ·exact h.1
  ·exact h.2
 refine(start p a.1 a.2).trans ((gP trivial).trans ?_);unfold sp
 by_cases hp:1<=p/\p<=70000
 ·rw[if_pos hp,decide_eq_true hp.1,decide_eq_true hp.2];exact L 2 (fun i=>t2 a.1 a.2 i) (by decide) hf 2 0 (by omega)
 ·rw[if_neg hp];have:(decide (1<=p)&&decide (p<=70000))=false:=by
   rw[bYB,decide_eq_false_iff_not,decide_eq_false_iff_not];omega
  rw[this];rfl
def aG:cX:=orc2 (pN .i64) (aAN (.pair sB (.pair (sI .u64) (.pair (sN .i64) (.pair sB (.pair (sI .u64) (sN .i64)))))) (false,[],0,false,[],0)) sp
theorem ok:OK 117 aG:=(eB E aE (aA xE.ok (aA rZ.ok aD)) func117).lE rfl spec
end uZ
namespace Ie
def E:=mE [(120,Da.aG)] 6 [5] [] []
def aE:=bd f165
theorem aW:Nk E aE:=nk
theorem start a b c:aF E f165 aE [D.agg [sc (bool a),ints u64 b,sc (int i64 c)]]=aP (aL (a,b,c)/\aL (false,[],(0:Int))) (some [D.s (sc (int i64 (cR (dv (a,b,c)) (dv (false,[],Int.ofNat (nat_lit 0))))))]):=eJ aW
def sp(x:dR):Prop×List D:=(aL x,[.s (.sc (.int .i64 (cR (dv x) (0,0))))])
theorem aXY:aL (false,[],0):=⟨⟨M6.Fc,fun h=>Bool.noConfusion h,by simp⟩,by constructor <;> decide,fun _=>rfl,fun h=>(h rfl).elim⟩
theorem spec:gI E f165 aE gZ sp:=by
 intro x h;exact(start x.1 x.2.1 x.2.2).trans (gP ⟨h,aXY⟩)
def aG:cX:=orc1 gZ sp
theorem ok:OK 165 aG:=(eB E aE (aA Da.ok aD) func165).nA rfl spec
end Ie
namespace gL
def E:=mE [(67,rZ.aG),(165,Ie.aG)] 18 [] [] []
def aE:=bd f159
theorem aW:Nk E aE:=nk
theorem start a b c d e f:aF E f159 aE [D.agg [sc (bool a),ints u64 b,sc (int i64 c),sc (bool d),ints u64 e,sc (int i64 f)]]=letI A:=sc (int i64 0);aP (eG (a,b,c,d,e,f)) (aP (aL (d,e,f)) (aB (decide (cR (dv (d,e,f)) ((0:Int),(0:Int))<0)) (some [D.s (sc (int i64 (-1:Int))),D.s A]) (aP (aL (a,b,c)) (aB (decide (0<cR (dv (a,b,c)) ((0:Int),(0:Int)))) (some [D.s (sc (int i64 1)),D.s A]) (some [D.s A,D.s A]))))):=eJ aW
def wG(a b:Int×Int):Int:=if cR b (0,0)<0 then -1 else if 0<cR a (0,0)then 1 else 0
def sp(s:rY):Prop×List D:=(eG s,[.s (.sc (.int .i64 (wG (dv (gN s)) (dv (gO s))))),.s (.sc (.int .i64 0))])
theorem spec:gI E f159 aE sZ sp:=by
 intro s h;have h:eG s:=h;have hL:aL (s.1,s.2.1,s.2.2.1):=h.1;have hH:aL (s.2.2.2.1,s.2.2.2.2.1,s.2.2.2.2.2):=h.2.1;refine(start s.1 s.2.1 s.2.2.1 s.2.2.2.1 s.2.2.2.2.1 s.2.2.2.2.2).trans ?_;unfold sp wG
 try dsimp only
 rw[gP h,gP hH];show aB (decide (cR (dv (gO s)) (0,0)<0)) _ _=_
 by_cases c1:cR (dv (gO s)) (0,0)<0
 ·rw[aO c1,if_pos c1]
 ·rw[aI c1,if_neg c1,gP hL];show aB (decide (0<cR (dv (gN s)) (0,0))) _ _=_
  by_cases c2:0<cR (dv (gN s)) (0,0)
  ·rw[aO c2,if_pos c2]
  ·rw[aI c2,if_neg c2]
def aG:cX:=orc1 sZ sp
theorem ok:OK 159 aG:=(eB E aE (aA rZ.ok (aA Ie.ok aD)) func159).nA rfl spec
end gL
namespace Iu
def E:=mE [(210,bR.aG)] 14 [11] [] []
def aE:=bd f166
theorem aW:Nk E aE:=nk
theorem start a b d e f g c:aF E f166 aE [D.agg [sc (bool a),ints u64 b,sc (int i64 d)],D.agg [sc (bool e),ints u64 f,sc (int i64 g)],D.s (sc (int i64 c))]=letI A:=bR.rI false c (dv (a,b,d)) (dv (e,f,g));letI B:=bif fR A.fst A.snd then aK A.fst A.snd else((0:Int),(0:Int));aP (aL (a,b,d)/\aL (e,f,g)/\(dv (e,f,g)).fst≠0/\b.length<=4096/\f.length<=4096/\1<=c/\c<=70000) (some [D.agg [sc (bool (isNeg B.fst)),ints u64 (M6.dg B.fst.natAbs),sc (int i64 B.snd)],D.s (sc (int i64 (bif fR A.fst A.snd then(0:Int)else(5:Int))))]):=eJ aW
def sp(x y:dR)(p:Int):Prop×List D:=(aL x/\aL y/\(dv y).1≠0/\x.2.1.length<=4096/\y.2.1.length<=4096/\1<=p/\p<=70000,dE (fR (bR.rI false p (dv x) (dv y)).1 (bR.rI false p (dv x) (dv y)).2) (aK (bR.rI false p (dv x) (dv y)).1 (bR.rI false p (dv x) (dv y)).2))
theorem spec:qR E f166 aE gZ gZ (pN .i64) sp:=by
 intro x y p h;refine(start x.1 x.2.1 x.2.2 y.1 y.2.1 y.2.2 p).trans ((gP h).trans ?_);rfl
def aG:cX:=orc3 gZ gZ (pN .i64) sp
theorem ok:OK 166 aG:=(eB E aE (aA bR.ok aD) func166).zA rfl spec
end Iu
namespace Vg
def E:=mE [(210,bR.aG)] 14 [11] [] []
def aE:=bd f167
theorem aW:Nk E aE:=nk
theorem start a b d e f g c:aF E f167 aE [D.agg [sc (bool a),ints u64 b,sc (int i64 d)],D.agg [sc (bool e),ints u64 f,sc (int i64 g)],D.s (sc (int i64 c))]=letI A:=bR.rI true c (dv (a,b,d)) (dv (e,f,g));letI B:=bif fR A.fst A.snd then aK A.fst A.snd else((0:Int),(0:Int));aP (aL (a,b,d)/\aL (e,f,g)/\(dv (e,f,g)).fst≠0/\b.length<=4096/\f.length<=4096/\1<=c/\c<=70000) (some [D.agg [sc (bool (isNeg B.fst)),ints u64 (M6.dg B.fst.natAbs),sc (int i64 B.snd)],D.s (sc (int i64 (bif fR A.fst A.snd then(0:Int)else(5:Int))))]):=eJ aW
def sp(x y:dR)(p:Int):Prop×List D:=(aL x/\aL y/\(dv y).1≠0/\x.2.1.length<=4096/\y.2.1.length<=4096/\1<=p/\p<=70000,dE (fR (bR.rI true p (dv x) (dv y)).1 (bR.rI true p (dv x) (dv y)).2) (aK (bR.rI true p (dv x) (dv y)).1 (bR.rI true p (dv x) (dv y)).2))
theorem spec:qR E f167 aE gZ gZ (pN .i64) sp:=by
 intro x y p h;refine(start x.1 x.2.1 x.2.2 y.1 y.2.1 y.2.2 p).trans ((gP h).trans ?_);rfl
def aG:cX:=orc3 gZ gZ (pN .i64) sp
theorem ok:OK 167 aG:=(eB E aE (aA bR.ok aD) func167).zA rfl spec
end Vg
namespace Rw
def E:=mE [] 23 [] [] []
def aE:=bd f164
theorem aW:Nk E aE:=nk
theorem start a c e b f g h d:aF E f164 aE [D.agg [sc (bool a),ints u64 c,sc (int i64 e)],D.s (sc (int i64 b)),D.agg [sc (bool f),ints u64 g,sc (int i64 h)],D.s (sc (int i64 d))]=letI B:=int i64 0;letI A:=some [D.agg [sc (bool false),sc (slice none 0 0),sc B,sc (bool false),sc (slice none 0 0),sc B],D.s (sc (int i64 (if d>b then d else b)))];aB (b !=0) A (aB (d !=0) A (some [D.agg [sc (bool a),ints u64 c,sc (int i64 e),sc (bool f),ints u64 g,sc (int i64 h)],D.s (sc B)])):=eJ aW
def sp(x:dR)(e:Int)(y:dR)(f:Int):Prop×List D:=(e=0/\f=0,[.agg [.sc (.bool x.1),.ints .u64 x.2.1,.sc (.int .i64 x.2.2),.sc (.bool y.1),.ints .u64 y.2.1,.sc (.int .i64 y.2.2)],.s (.sc (.int .i64 0))])
theorem spec:aGH E f164 aE gZ (pN .i64) gZ (pN .i64) sp:=by
 rintro x e y f ⟨rfl,rfl⟩;exact start x.1 x.2.1 x.2.2 0 y.1 y.2.1 y.2.2 0
def aG:cX:=orc4 gZ (pN .i64) gZ (pN .i64) sp
theorem ok:OK 164 aG:=(eB E aE aD func164).aSE rfl spec
end Rw
namespace iX
def E:=mE [(117,uZ.aG),(159,gL.aG),(20,iT.aG),(165,Ie.aG),(166,Iu.aG),(167,Vg.aG),(164,Rw.aG)] 86 [21,83] [(11,[2,3,4,6]),(14,[2,3,4,6,11,12]),(16,[2,3,6,11,12])] [11,14,16]
def aE:=bd f119
theorem aW:Nk E aE:=nk
def aXH a b c d e f g h i j k l m n o p q:=kV E f119 aE 11 [bI a,dG 1 44 [cI b,eT c,cP d,cI e,eT f,cP g],dG 2 44 [cI h,eT i,cP j,cI k,eT l,cP m],dG 3 44 [cI n,sc (slice none 0 0),cP o,cI p,sc (slice none 0 0),cP q]]
def aKV a b c d e f g h i j k l m n o p q r s t u v w:=kV E f119 aE 14 [bI a,dG 1 44 [cI b,eT c,cP d,cI e,eT f,cP g],dG 2 44 [cI h,eT i,cP j,cI k,eT l,cP m],dG 3 44 [cI n,sc (slice none 0 0),cP o,cI p,sc (slice none 0 0),cP q],dG 4 29 [cI r,eT s,cP t],dG 5 29 [cI u,eT v,cP w]]
def aKU a b c d e f g h i j k l m n o p q:=kV E f119 aE 16 [bI a,dG 1 44 [cI b,eT c,cP d,cI e,eT f,cP g],dG 2 44 [cI h,sc (slice none 0 0),cP i,cI j,sc (slice none 0 0),cP k],dG 3 29 [cI l,eT m,cP n],dG 4 29 [cI o,eT p,cP q]]
theorem start a b d e f g h i j k l m c:aF E f119 aE [D.agg [sc (bool a),ints u64 b,sc (int i64 d),sc (bool e),ints u64 f,sc (int i64 g)],D.agg [sc (bool h),ints u64 i,sc (int i64 j),sc (bool k),ints u64 l,sc (int i64 m)],D.s (sc (int i64 c))]=letI I:=int i64 0;letI F:=bool false;letI C:=slice none 0 0;letI B:=(a,b,d,e,f,g);letI N:=dv (gN B);letI K:=dv (gO B);letI A:=(h,i,j,k,l,m);letI H:=dv (gO A);letI G:=dv (gN A);aP (eG B/\eG A) (aC (if 1<=c/\c<=70000 then(0:Int)else(1:Int)) fun n=>aB (n !=0) (some [D.agg [sc F,sc C,sc I,sc F,sc C,sc I],D.s (sc (int i64 n))]) (aP (eG A) (aC (gL.wG G H) fun o=>aB (o==0) (some [D.agg [sc F,sc C,sc I,sc F,sc C,sc I],D.s (sc (int i64 4))]) (aB (o==(-1:Int)) (aP (eG B) (aC (isNeg (-K.fst)) fun p=>aC (M6.dg (-K.fst).natAbs) fun q=>aC K.snd fun r=>aC (isNeg (-N.fst)) fun s=>aC (M6.dg (-N.fst).natAbs) fun t=>aC N.snd fun u=>aP (eG A) (aC (isNeg (-H.fst)) fun v=>aC (M6.dg (-H.fst).natAbs) fun w=>aC H.snd fun x=>aC (isNeg (-G.fst)) fun y=>aC (M6.dg (-G.fst).natAbs) fun z=>aC G.snd fun aa=>iX.aXH c p q r s t u v w x y z aa false 0 false 0))) (iX.aXH c a b d e f g h i j k l m false 0 false 0))))):=eJ aW
theorem aQI a b c d e f g h i j k l m n o p q:aXH a b c d e f g h i j k l m n o p q=aP (aL (b,c,d)) (aC (cR (dv (b,c,d)) ((0:Int),(0:Int))) fun r=>aB (decide (r<0)) (iX.aKV a b c d e f g h i j k l m n o p q h i j h i j) (iX.aKV a b c d e f g h i j k l m n o p q k l m h i j)):=cJ aW
theorem Oj a b c d e f g h i j k l m n o p q r s t u v w:aKV a b c d e f g h i j k l m n o p q r s t u v w=aP (aL (e,f,g)) (aC (cR (dv (e,f,g)) ((0:Int),(0:Int))) fun x=>aB (decide (x<0)) (iX.aKU a b c d e f g n o p q r s t k l m) (iX.aKU a b c d e f g n o p q r s t u v w)):=cJ aW
theorem Vb a b c d e f g h i j k l m n o p q:aKU a b c d e f g h i j k l m n o p q=letI B:=bR.rI true a (dv (e,f,g)) (dv (o,p,q));letI F:=bif fR B.fst B.snd then aK B.fst B.snd else((0:Int),(0:Int));letI A:=bR.rI false a (dv (b,c,d)) (dv (l,m,n));letI C:=bif fR A.fst A.snd then aK A.fst A.snd else((0:Int),(0:Int));aP (aL (b,c,d)/\aL (l,m,n)/\(dv (l,m,n)).fst≠0/\c.length<=4096/\m.length<=4096/\1<=a/\a<=70000) (aC (isNeg C.fst) fun r=>aC (M6.dg C.fst.natAbs) fun s=>aC C.snd fun t=>aC (bif fR A.fst A.snd then(0:Int)else(5:Int)) fun u=>aP (aL (e,f,g)/\aL (o,p,q)/\(dv (o,p,q)).fst≠0/\f.length<=4096/\p.length<=4096/\1<=a/\a<=70000) (aC (isNeg F.fst) fun v=>aC (M6.dg F.fst.natAbs) fun w=>aC F.snd fun x=>aC (bif fR B.fst B.snd then(0:Int)else(5:Int)) fun y=>aP (u=0/\y=0) (some [D.agg [sc (bool r),ints u64 s,sc (int i64 t),sc (bool v),ints u64 w,sc (int i64 x)],D.s (sc (int i64 0))]))):=cJ aW
def aAL(p:Int)(a u v:Int×Int):Int×Int:=bR.rI false p a (bif decide (cR a (0,0)<0)then u else v)
def aAM(p:Int)(a u v:Int×Int):Int×Int:=bR.rI true p a (bif decide (cR a (0,0)<0)then v else u)
def Oq(p:Int)(a b u v:Int×Int):Int×Int:=bif gL.wG u v==-1 then aAL p (iT.uM b) (iT.uM v) (iT.uM u)else aAL p a u v
def Ot(p:Int)(a b u v:Int×Int):Int×Int:=bif gL.wG u v==-1 then aAM p (iT.uM a) (iT.uM v) (iT.uM u)else aAM p b u v
def sp(s t:rY)(p:Int):Prop×List D:=(eG s/\eG t/\(1<=p/\p<=70000)/\gL.wG (dv (gN t)) (dv (gO t))≠0 /\
 (bl (dv (gN s)).1.natAbs<=262144/\bl (dv (gO s)).1.natAbs<=262144/\bl (dv (gN t)).1.natAbs<=262144/\bl (dv (gO t)).1.natAbs<=262144) /\
 fR (Oq p (dv (gN s)) (dv (gO s)) (dv (gN t)) (dv (gO t))).1 (Oq p (dv (gN s)) (dv (gO s)) (dv (gN t)) (dv (gO t))).2=true/\fR (Ot p (dv (gN s)) (dv (gO s)) (dv (gN t)) (dv (gO t))).1 (Ot p (dv (gN s)) (dv (gO s)) (dv (gN t)) (dv (gO t))).2=true,
 [yE (aK (Oq p (dv (gN s)) (dv (gO s)) (dv (gN t)) (dv (gO t))).1 (Oq p (dv (gN s)) (dv (gO s)) (dv (gN t)) (dv (gO t))).2) (aK (Ot p (dv (gN s)) (dv (gO s)) (dv (gN t)) (dv (gO t))).1 (Ot p (dv (gN s)) (dv (gO s)) (dv (gN t)) (dv (gO t))).2),.s (.sc (.int .i64 0))])
theorem J{p:Int}(hp:1<=p/\p<=70000){x y u v:dR}(hx:aL x)(hy:aL y)(hu:aL u)(hv:aL v)(u0:(dv u).1≠0)(v0:(dv v).1≠0)(lx:x.2.1.length<=4096)(ly:y.2.1.length<=4096)(lu:u.2.1.length<=4096)(lv:v.2.1.length<=4096)
  (i1:fR (aAL p (dv x) (dv u) (dv v)).1 (aAL p (dv x) (dv u) (dv v)).2=true) (i2:fR (aAM p (dv y) (dv u) (dv v)).1 (aAM p (dv y) (dv u) (dv v)).2=true) :
  aXH p x.1 x.2.1 x.2.2 y.1 y.2.1 y.2.2 u.1 u.2.1 u.2.2 v.1 v.2.1 v.2.2 false 0 false 0=some [yE (aK (aAL p (dv x) (dv u) (dv v)).1 (aAL p (dv x) (dv u) (dv v)).2) (aK (aAM p (dv y) (dv u) (dv v)).1 (aAM p (dv y) (dv u) (dv v)).2),.s (.sc (.int .i64 0))]:=by
 have fin:∀m n:dR,aL m->aL n->(dv m).1≠0->(dv n).1≠0->m.2.1.length<=4096->n.2.1.length<=4096->fR (bR.rI false p (dv x) (dv m)).1 (bR.rI false p (dv x) (dv m)).2=true->fR (bR.rI true p (dv y) (dv n)).1 (bR.rI true p (dv y) (dv n)).2=true ->
   aKU p x.1 x.2.1 x.2.2 y.1 y.2.1 y.2.2 false 0 false 0 m.1 m.2.1 m.2.2 n.1 n.2.1 n.2.2=some [yE (aK (bR.rI false p (dv x) (dv m)).1 (bR.rI false p (dv x) (dv m)).2) (aK (bR.rI true p (dv y) (dv n)).1 (bR.rI true p (dv y) (dv n)).2),.s (.sc (.int .i64 0))]:=by
  intro m n hm hn m0 n0 lm ln j1 j2;have x1:(x.1,x.2.1,x.2.2)=x:=rfl;have x2:(y.1,y.2.1,y.2.2)=y:=rfl;have x3:(m.1,m.2.1,m.2.2)=m:=rfl;have x4:(n.1,n.2.1,n.2.2)=n:=rfl;rw[Vb];simp only[aM,x1,x2,x3,x4,j1,j2,cond_true];rw[gP ⟨hx,hm,m0,lx,lm,hp.1,hp.2⟩,gP ⟨hy,hn,n0,ly,ln,hp.1,hp.2⟩,gP ⟨trivial,trivial⟩];rfl
 unfold aAL aAM at *;rw[aQI,gP hx,aM]
 by_cases c1:cR (dv x) (0,0)<0
 ·rw[show dv (x.1,x.2.1,x.2.2)=dv x from rfl,aO c1,Oj,gP hy,aM,show dv (y.1,y.2.1,y.2.2)=dv y from rfl];rw[decide_eq_true c1,cond_true]at i1 ⊢
  by_cases c2:cR (dv y) (0,0)<0
  ·rw[aO c2];rw[decide_eq_true c2,cond_true]at i2 ⊢;exact fin u v hu hv u0 v0 lu lv i1 i2
  ·rw[aI c2];rw[decide_eq_false c2,cond_false]at i2 ⊢;exact fin u u hu hu u0 u0 lu lu i1 i2
 ·rw[show dv (x.1,x.2.1,x.2.2)=dv x from rfl,aI c1,Oj,gP hy,aM,show dv (y.1,y.2.1,y.2.2)=dv y from rfl];rw[decide_eq_false c1,cond_false]at i1 ⊢
  by_cases c2:cR (dv y) (0,0)<0
  ·rw[aO c2];rw[decide_eq_true c2,cond_true]at i2 ⊢;exact fin v v hv hv v0 v0 lv lv i1 i2
  ·rw[aI c2];rw[decide_eq_false c2,cond_false]at i2 ⊢;exact fin v u hv hu v0 u0 lv lu i1 i2
theorem cell{q:Int×Int}(h:iL q)(hb:bl q.1.natAbs<=262144):(isNeg q.1,M6.dg q.1.natAbs,q.2).2.1.length<=4096:=by
 have:=cF h;refine this.Cl ?_;rw[cU];exact hb
theorem spec:qR E f119 aE sZ sZ (pN .i64) sp:=by
 rintro s t p ⟨h1,h2,hp,hs,⟨l1,l2,l3,l4⟩,i1,i2⟩;refine(start s.1 s.2.1 s.2.2.1 s.2.2.2.1 s.2.2.2.2.1 s.2.2.2.2.2 t.1 t.2.1 t.2.2.1 t.2.2.2.1 t.2.2.2.2.1 t.2.2.2.2.2 p).trans ?_;rw[gP ⟨h1,h2⟩,aM,if_pos hp,eN rfl,gP h2,aM];unfold sp;have n1:(dv (gN t)).1≠0:=fun hz=>by
  have:=Fj.1 (Em hz);have o:=kY.1 h2.2.2;unfold gL.wG at hs
  by_cases g:cR (dv (gO t)) (0,0)<0
  ·have:=xZ.1 g;grind
  ·rw[if_neg g,if_neg (by rw[Em hz];omega)]at hs;exact hs rfl
 have n2:(dv (gO t)).1≠0:=fun hz=>by
  have:=Fj.1 (Em hz);have o:=kY.1 h2.2.2;unfold gL.wG at hs;rw[if_neg (by rw[Em hz];omega)]at hs
  by_cases g:0<cR (dv (gN t)) (0,0)
  ·have:=sL.1 g;grind
  ·rw[if_neg g]at hs;exact hs rfl
 show aB (gL.wG (dv (gN t)) (dv (gO t))==0) _ _=_;rw[bP hs];have p1:=h1.1.uK;have p2:=h1.2.1.uK;have p3:=h2.1.uK;have p4:=h2.2.1.uK;unfold Oq Ot at *
 by_cases c:gL.wG (dv (gN t)) (dv (gO t))=-1
 ·rw[show(gL.wG (dv (gN t)) (dv (gO t))==-1)=true from beq_iff_eq.2 c,cond_true]at i1 i2;show aB (gL.wG (dv (gN t)) (dv (gO t))==-1) _ _=_;rw[cC c,gP h1];simp only[aM];rw[gP h2];rw[show(gL.wG (dv (gN t)) (dv (gO t))==-1)=true from beq_iff_eq.2 c,cond_true,cond_true];have e:=J hp (cF p2.Aj) (cF p1.Aj) (cF p4.Aj) (cF p3.Aj);rw[cU,cU,cU,cU]at e;dsimp only at e;exact e (by omega) (by omega) (cell p2.Aj (by dsimp only;rw[bSL];exact l2)) (cell p1.Aj (by dsimp only;rw[bSL];exact l1)) (cell p4.Aj (by dsimp only;rw[bSL];exact l4)) (cell p3.Aj (by dsimp only;rw[bSL];exact l3)) i1 i2
 ·rw[show(gL.wG (dv (gN t)) (dv (gO t))==-1)=false from beq_eq_false_iff_ne.2 c,cond_false]at i1 i2;show aB (gL.wG (dv (gN t)) (dv (gO t))==-1) _ _=_;rw[bP c];rw[show(gL.wG (dv (gN t)) (dv (gO t))==-1)=false from beq_eq_false_iff_ne.2 c,cond_false,cond_false];exact J hp h1.1 h1.2.1 h2.1 h2.2.1 n1 n2 (h1.1.Cl l1) (h1.2.1.Cl l2) (h2.1.Cl l3) (h2.2.1.Cl l4) i1 i2
def aG:cX:=orc3 sZ sZ (pN .i64) sp
theorem ok:OK 119 aG:=(eB E aE (aA uZ.ok (aA gL.ok (aA iT.ok (aA Ie.ok (aA Iu.ok (aA Vg.ok (aA Rw.ok aD))))))) func119).zA rfl spec
end iX
namespace VTurned
def trn(s c:(Int×Int)×(Int×Int)):Nat->((Int×Int)×(Int×Int))×((Int×Int)×(Int×Int))
 |0=>(s,c)
 |n+1=>trn c (iT.uM s.2,iT.uM s.1) n
theorem aNS{s:rY}(h:eG s):eG (mD (iT.uM (dv (gO s))) (iT.uM (dv (gN s)))):=by
 refine uG h.2.1.uK.Aj h.1.uK.Aj ?_;have:=kY.1 h.2.2;refine kY.2 ?_;unfold iT.uM;rw[mQ,mQ];grind
end VTurned
end W
namespace M
open Go AI W
structure Bx(s:(Int×Int)×(Int×Int))(V W m:Rat):Prop where
 pl:iL s.1
 ph:iL s.2
 bl:bl s.1.1.natAbs<=100000
 bh:M.bl s.2.1.natAbs<=100000
 m0:0<=m
 lo:R.qz s.1+m<=V
 hi:V+m<=R.qz s.2
 wd:R.qz s.2-R.qz s.1<=W
theorem Bx.neg{s:(Int×Int)×(Int×Int)}{V W m:Rat}(h:Bx s V W m):Bx (iT.uM s.2,iT.uM s.1) (-V) W m:=by
 obtain⟨h1,h2,h3,h4,h5,h6,h7,h8⟩:=h;refine⟨h2.Aj,h1.Aj,?_,?_,h5,?_,?_,?_⟩
 ·show M.bl (-s.2.1).natAbs<=_;rw[bSL];exact h4
 ·show M.bl (-s.1.1).natAbs<=_;rw[bSL];exact h3
 ·show R.qz (-s.2.1,s.2.2)+m<=_;rw[mQ];grind
 ·show _<=R.qz (-s.1.1,s.1.2);rw[mQ];grind
 ·show R.qz (-s.1.1,s.1.2)-R.qz (-s.2.1,s.2.2)<=_;rw[mQ,mQ];grind
theorem Bx.aIH{s:(Int×Int)×(Int×Int)}{V W m:Rat}(h:Bx s V W m):eG (mD s.1 s.2):=uG h.pl h.ph (kY.2 (by have:=h.lo;have:=h.hi;have:=h.m0;grind))
theorem Bx.trn{s c:(Int×Int)×(Int×Int)}{S C Ws Wc m:Rat}(hs:Bx s S Ws m)(hc:Bx c C Wc m){k:Int} :
  Bx (VTurned.trn s c (k%4).toNat).1 (R.rs k S C) (if k%2=0 then Ws else Wc) m/\Bx (VTurned.trn s c (k%4).toNat).2 (R.rc k S C) (if k%2=0 then Wc else Ws) m:=by
 have h4:k%4=0\/k%4=1\/k%4=2\/k%4=3:=by omega
 unfold R.rs R.rc;rcases h4 with h |h |h |h
 ·have h2:k%2=0:=by omega
  simp[h,h2];exact⟨hs,hc⟩
 ·have h2:k%2=1:=by omega
  simp[h,h2];exact⟨hc,hs.neg⟩
 ·have h2:k%2=0:=by omega
  simp[h,h2];exact⟨hs.neg,hc.neg⟩
 ·have h2:k%2=1:=by omega
  simp[h,h2];have e:s=(iT.uM (iT.uM s.1),iT.uM (iT.uM s.2)):=by
   obtain⟨⟨a,b⟩,c,d⟩:=s;unfold iT.uM;dsimp only;rw[Int.neg_neg,Int.neg_neg]
  refine⟨hc.neg,?_⟩;have:=hs;rw[e]at this;exact this
theorem aKD(up:Bool){z:Int}{v:Rat}{k:Nat}(hk:1<=k)(h:(z:Rat)=v\/(z%2=1/\(z:Rat)-1<v/\v<(z:Rat)+1)) :
  (up=false->(iQ.nJ up z k:Rat)*((2^k:Nat):Rat)<=v/\v<=(iQ.nJ up z k:Rat)*((2^k:Nat):Rat)+((2^k:Nat):Rat))/\(up=true->v<=(iQ.nJ up z k:Rat)*((2^k:Nat):Rat)/\(iQ.nJ up z k:Rat)*((2^k:Nat):Rat)<=v+((2^k:Nat):Rat)):=by
 obtain⟨c1,c2⟩:=Xp up z k;have K0:(0:Rat)<((2^k:Nat):Rat):=by exact_mod_cast bOQ (by decide)
 rcases h with h |⟨ho,h1,h2⟩
 ·rw[<-h];exact⟨fun hu=>⟨(c1 hu).1,bQY (c1 hu).2⟩,fun hu=>⟨(c2 hu).1,bQY (c2 hu).2⟩⟩
 ·
  have ev:(2:Int)∣((2^k:Nat):Int):=by
   obtain⟨j,rfl⟩:∃j,k=j+1:=⟨k-1,by omega⟩;rw[bQQ];exact⟨((2^j:Nat):Int),by push_cast;omega⟩
  have fl:∀w:Int,w%2=1->w/((2^k:Nat):Int)*((2^k:Nat):Int)+1<=w/\w+1<=w/((2^k:Nat):Int)*((2^k:Nat):Int)+((2^k:Nat):Int):=by
   intro w hw;have e:=bUU w ((2^k:Nat):Int);have hp:(0:Int)<((2^k:Nat):Int):=by have:=bOQ (n:=k) (show 0<2 by decide);omega
   have m0:=bUV w (show((2^k:Nat):Int)≠0 by omega);have m1:=bUW w hp;have m2:w%((2^k:Nat):Int)%2=1:=by rw[Int.emod_emod_of_dvd w ev];exact hw
   rw[Int.mul_comm]at e;generalize w/((2^k:Nat):Int)*((2^k:Nat):Int)=P at *;omega
  constructor
  ·rintro rfl;unfold iQ.nJ;rw[cond_false];obtain⟨f1,f2⟩:=fl z ho;have bKZ:((z/((2^k:Nat):Int):Int):Rat)*((2^k:Nat):Rat)+1<=(z:Rat):=by exact_mod_cast f1
   have bKY:(z:Rat)+1<=((z/((2^k:Nat):Int):Int):Rat)*((2^k:Nat):Rat)+((2^k:Nat):Rat):=by exact_mod_cast f2
   generalize ((z/((2^k:Nat):Int):Int):Rat)*((2^k:Nat):Rat)=P at *;constructor <;> grind
  ·rintro rfl;unfold iQ.nJ;rw[cond_true];obtain⟨f1,f2⟩:=fl (-z) (by omega);have bKZ:((-z/((2^k:Nat):Int):Int):Rat)*((2^k:Nat):Rat)+1<=-(z:Rat):=by exact_mod_cast f1
   have bKY:-(z:Rat)+1<=((-z/((2^k:Nat):Int):Int):Rat)*((2^k:Nat):Rat)+((2^k:Nat):Rat):=by exact_mod_cast f2
   rw[bWR];have e:-((-z/((2^k:Nat):Int):Int):Rat)*((2^k:Nat):Rat)=-(((-z/((2^k:Nat):Int):Int):Rat)*((2^k:Nat):Rat)):=by grind
   rw[e];generalize ((-z/((2^k:Nat):Int):Int):Rat)*((2^k:Nat):Rat)=P at *;constructor <;> grind
theorem aIO{a b s:Nat}(hb:0<b):∃v:Rat,v*(b:Rat)=2*((a:Rat)*((2^s:Nat):Rat))/\0<=v/\((bR.Pn a b s:Rat)=v\/(bR.Pn a b s%2=1/\(bR.Pn a b s:Rat)-1<v/\v<(bR.Pn a b s:Rat)+1)):=by
 have b0:(0:Rat)<(b:Rat):=by exact_mod_cast hb
 have hd:=bQX (a*2^s) b;have hm:=bNZ (a*2^s) hb;have A:(b:Rat)*((a*2^s/b:Nat):Rat)+((a*2^s%b:Nat):Rat)=(a:Rat)*((2^s:Nat):Rat):=by exact_mod_cast hd
 have Mm:((a*2^s%b:Nat):Rat)<(b:Rat):=by exact_mod_cast hm
 have q0:(0:Rat)<=((a*2^s/b:Nat):Rat):=by exact_mod_cast bRU _
 have m0:(0:Rat)<=((a*2^s%b:Nat):Rat):=by exact_mod_cast bRU _
 refine⟨2*((a:Rat)*((2^s:Nat):Rat))/(b:Rat),by grind,?_,?_⟩
 ·refine R.dK b0 ?_;have:(b:Rat)*(2*((a:Rat)*((2^s:Nat):Rat))/(b:Rat))=2*((a:Rat)*((2^s:Nat):Rat)):=by grind
  rw[this,<-A];have:=R.aH (bQY b0) q0;grind
 ·have e:(b:Rat)*(2*((a:Rat)*((2^s:Nat):Rat))/(b:Rat))=2*((b:Rat)*((a*2^s/b:Nat):Rat)+((a*2^s%b:Nat):Rat)):=by rw[A];grind
  generalize 2*((a:Rat)*((2^s:Nat):Rat))/(b:Rat)=v at *;unfold bR.Pn
  by_cases hz:a*2^s%b=0
  ·left;rw[if_pos hz,bMS,bSR];rw[hz]at e;have z:((0:Nat):Rat)=0:=by norm_cast
   have two:((2:Nat):Rat)=2:=by norm_cast
   rw[z]at e;rw[two];have:(b:Rat)*v=(b:Rat)*(((a*2^s/b:Nat):Rat)*2):=by rw[e];grind
   exact(Rat.le_antisymm (R.dK b0 (by rw[this];exact bSF)) (R.dK b0 (by rw[this];exact bSF))).symm
  ·right;have m1:(1:Rat)<=((a*2^s%b:Nat):Rat):=by exact_mod_cast(show 1<=a*2^s%b by omega)
   rw[if_neg hz];have c:((a*2^s/b*2+1:Nat):Rat)=2*((a*2^s/b:Nat):Rat)+1:=by
    rw[bWD,bSR];have two:((2:Nat):Rat)=2:=by norm_cast
    have one:((1:Nat):Rat)=1:=by norm_cast
    rw[two,one];grind
   rw[c];refine⟨by omega,?_,?_⟩
   ·refine R.oJ b0 ?_;rw[e];grind
   ·refine R.oJ b0 ?_;rw[e];grind
end M
namespace W
open Go AI M
namespace Ih
def E:=mE [(161,xE.aG),(67,rZ.aG)] 20 [] [(4,[10,11,12])] []
def aE:=bd f117
theorem aW:Nk E aE:=nk
def L4(a:Nat)(b:Nat->Bool)(c:Nat->List Int)(d:Nat->Int)(e:Nat->Bool)(f:Nat->List Int)(g:Nat->Int) h j:=nG E f117 aE 4 [(A.v (V.one (L.rows 6 a fun i=>[sc (bool (b i)),ints u64 (c i),sc (int i64 (d i)),sc (bool (e i)),ints u64 (f i),sc (int i64 (g i))])),none),bI h,bI j]
theorem start p (a:rY):aF E f117 aE [D.s (sc (int i64 p)),D.rows 6 1 fun i=>[sc (bool a.fst),ints u64 a.snd.fst,sc (int i64 a.snd.snd.fst),sc (bool a.snd.snd.snd.fst),ints u64 a.snd.snd.snd.snd.fst,sc (int i64 a.snd.snd.snd.snd.snd)]]=aP True (aB (!(decide (1<=p)&&decide (p<=70000))) (some [D.s (sc (int i64 1))]) (Ih.L4 1 (fun i=>a.fst) (fun i=>a.snd.fst) (fun i=>a.snd.snd.fst) (fun i=>a.snd.snd.snd.fst) (fun i=>a.snd.snd.snd.snd.fst) (fun i=>a.snd.snd.snd.snd.snd) 1 0)):=eJ aW
theorem kS a b c d e f g h j:L4 a b c d e f g h j=aB (decide (j<h)) (if 0<=j/\j<(a:Int)then aP (eG (b j.toNat,c j.toNat,d j.toNat,e j.toNat,f j.toNat,g j.toNat)) (Ih.L4 a (fun i=>b i) (fun i=>c i) (fun i=>d i) (fun i=>e i) (fun i=>f i) (fun i=>g i) h (i64.wrap (j+1)))else none) (some [D.s (sc (int i64 0))]):=lJ aW
def sp(p:Int)(a:rY):Prop×List D:=(eG a,[.s (.sc (.int .i64 (if 1<=p/\p<=70000 then 0 else 1)))])
theorem L(n:Nat)(f:Nat->rY)(hn:n<=1000)(hf:∀i,i<n->eG (f i)):∀d k:Nat,k+d=n->L4 n (fun i=>(f i).1) (fun i=>(f i).2.1) (fun i=>(f i).2.2.1) (fun i=>(f i).2.2.2.1) (fun i=>(f i).2.2.2.2.1) (fun i=>(f i).2.2.2.2.2) (n:Int) (k:Int)=some [D.s (.sc (.int .i64 0))]
 |0,k,h=>by rw[kS,aI]
 |d+1,k,h=>by
  have e:i64.wrap ((k:Int)+1)=((k+1:Nat):Int):=by rw[wrap_i64];omega
  rw[kS,aO,aU,bPN,gP (hf k (by omega)),e];exact L n f hn hf d (k+1) (by omega)
theorem spec:fK E f117 aE (pN .i64) (bCZ (.pair sB (.pair (sI .u64) (.pair (sN .i64) (.pair sB (.pair (sI .u64) (sN .i64)))))) (false,[],0,false,[],0)) sp:=by
 intro p a h;have hf:∀i,i<1->eG (a):=fun i hi=>h
 refine(start p a).trans ((gP trivial).trans ?_);unfold sp
 by_cases hp:1<=p/\p<=70000
 ·rw[if_pos hp,decide_eq_true hp.1,decide_eq_true hp.2];exact L 1 (fun _=>a) (by decide) hf 1 0 (by omega)
 ·rw[if_neg hp];have:(decide (1<=p)&&decide (p<=70000))=false:=by
   rw[bYB,decide_eq_false_iff_not,decide_eq_false_iff_not];omega
  rw[this];rfl
def aG:cX:=orc2 (pN .i64) (bCZ (.pair sB (.pair (sI .u64) (.pair (sN .i64) (.pair sB (.pair (sI .u64) (sN .i64)))))) (false,[],0,false,[],0)) sp
theorem ok:OK 117 aG:=(eB E aE (aA xE.ok (aA rZ.ok aD)) func117).lE rfl spec
end Ih
end W
namespace M
open Go AI W
theorem aIP{a b:Nat}{p:Int}(hp:1<=p)(ha:a≠0)(hb:b≠0):p+3<=(bl (bR.Pn a b (bR.yK p a b)):Nat):=by
 have h1:=Xz ha;have h2:=tJ b;have b0:=rQ ha;have key:2^(p+1).toNat<=a*2^(bR.yK p a b)/b:=by
  rw[Nat.le_div_iff_mul_le (by omega)];have e1:2^(p+1).toNat*b<=2^((p+1).toNat+bl b):=by rw[bQS];exact bOF _ (Nat.le_of_lt h2)
  have e2:2^(bl a-1+bR.yK p a b)<=a*2^(bR.yK p a b):=by rw[bQS];exact bNE _ h1
  have e3:2^((p+1).toNat+bl b)<=2^(bl a-1+bR.yK p a b):=bOR (by decide) (by unfold bR.yK;omega);omega
 have:2^(p+2).toNat<=bR.Pn a b (bR.yK p a b):=by
  have e:2^(p+2).toNat=2^(p+1).toNat*2:=by rw[<-bQQ];congr 1;omega
  unfold bR.Pn;rw[e];generalize a*2^(bR.yK p a b)/b=Q at *;omega
 have:=(rA (n:=bR.Pn a b (bR.yK p a b)) (k:=(p+2).toNat)).2 this;omega
theorem Lo(b:Bool)(n:Nat):(zs b n:Rat)=(if b then -1 else 1)*(n:Rat):=by
 cases b
 ·show((n:Int):Rat)=_;rw[bWJ];simp
 ·show((-(n:Int):Int):Rat)=_;rw[bWR,bWJ,if_pos rfl];grind
theorem aKY(z:Int):zs (isNeg z) z.natAbs=z:=by
 cases h:isNeg z with
 |true=>have:=lR.1 h;show -(z.natAbs:Int)=z;omega
 |false=>have:=jH.1 h;show(z.natAbs:Int)=z;omega
theorem Ey(up:Bool){x y:Int×Int}{p:Int}{q:Rat}(hp:1<=p)(hy:y.1≠0)(hq:q*R.qz y=R.qz x) :
  (up=false->R.qz (aK (bR.rI up p x y).1 (bR.rI up p x y).2)<=q/\q<=R.qz (aK (bR.rI up p x y).1 (bR.rI up p x y).2)+R.pz (2-p)*R.ab q) /\
  (up=true->q<=R.qz (aK (bR.rI up p x y).1 (bR.rI up p x y).2)/\R.qz (aK (bR.rI up p x y).1 (bR.rI up p x y).2)<=q+R.pz (2-p)*R.ab q):=by
 rw[mF];unfold bR.rI bR.aSB;dsimp only;obtain⟨v,v1,v2,v3⟩:=aIO (a:=x.1.natAbs) (b:=y.1.natAbs) (s:=bR.yK p x.1.natAbs y.1.natAbs) (by omega);have aRJ:=aIP (a:=x.1.natAbs) (b:=y.1.natAbs) hp;have bLL:=R.aT q;generalize hs:bR.yK p x.1.natAbs y.1.natAbs=s at *;generalize hQ:bR.Pn x.1.natAbs y.1.natAbs s=Q at *;obtain⟨e,he⟩:∃e,e=x.2-y.2-(s:Int)-1:=⟨_,rfl⟩;rw[<-he];have pe:=R.dT e;have vq:q=(if(isNeg x.1 !=isNeg y.1)then -1 else 1)*v*R.pz e:=by
  have aNZ:(x.1:Rat)=(if isNeg x.1 then -1 else 1)*(x.1.natAbs:Rat):=by rw[<-Lo,aKY]
  have aDK:(y.1:Rat)=(if isNeg y.1 then -1 else 1)*(y.1.natAbs:Rat):=by rw[<-Lo,aKY]
  have bFY:R.qz y≠0:=Pl hy;have ex:R.pz x.2=2*((2^s:Nat):Rat)*R.pz e*R.pz y.2:=by
   have:x.2=e+y.2+(s:Int)+1:=by omega
   rw[this,R.hI,R.dU,R.kB];grind
  have e2:((if(isNeg x.1 !=isNeg y.1)then -1 else 1)*v*R.pz e)*R.qz y=R.qz x:=by
   unfold R.qz;rw[ex,aNZ,aDK];have:v*(y.1.natAbs:Rat)=2*((x.1.natAbs:Rat)*((2^s:Nat):Rat)):=v1;cases isNeg x.1 <;> cases isNeg y.1 <;> simp <;> grind
  have e3:(q-(if(isNeg x.1 !=isNeg y.1)then -1 else 1)*v*R.pz e)*R.qz y=0:=by grind
  rcases Rat.mul_eq_zero.1 e3 with h |h
  ·grind
  ·exact absurd h bFY
 obtain⟨w,hw⟩:∃w,w=(if(isNeg x.1 !=isNeg y.1)then(-1:Rat)else 1)*v:=⟨_,rfl⟩;rw[<-hw]at vq;obtain⟨z,hz⟩:∃z,z=zs (isNeg x.1 !=isNeg y.1) Q:=⟨_,rfl⟩;rw[<-hz];have aYM:(z:Rat)=w\/(z%2=1/\(z:Rat)-1<w/\w<(z:Rat)+1):=by
  rw[hz,Lo,hw];rcases v3 with h |⟨h1,h2,h3⟩
  ·left;rw[h]
  ·right;refine⟨?_,?_⟩
   ·cases (isNeg x.1 !=isNeg y.1)
    ·show((Q:Nat):Int)%2=1;omega
    ·show(-(Q:Int))%2=1;omega
   ·cases (isNeg x.1 !=isNeg y.1) <;> simp <;> constructor <;> grind
 have za:z.natAbs=Q:=by rw[hz];exact jR _ _
 have bLK:R.ab q=R.ab w*R.pz e:=by rw[vq,R.gQ,R.bS (bQY pe)]
 have bFD:=R.dT (2-p);unfold bV.mA
 by_cases c:(bl z.natAbs:Int)-p<=0
 ·rw[if_pos c];dsimp only;have aSQ:(z:Rat)=w:=by
   rcases aYM with h |⟨h,_⟩
   ·exact h
   ·exfalso;have Ov:x.1.natAbs≠0:=by
     intro h0;rw[h0]at hQ;have:Q=0:=by
      rw[<-hQ];unfold bR.Pn;rw[Nat.zero_mul,bVL,Nat.zero_mod,if_pos rfl]
     omega
    have:=aRJ Ov (by omega);rw[za]at c;omega
  have:=R.aH (bQY bFD) bLL;rw[aSQ,<-vq];constructor <;> (intro _;constructor <;> grind)
 ·rw[if_neg c];dsimp only;obtain⟨k,hk⟩:=bQT (show 0<=(bl z.natAbs:Int)-p by omega);rw[hk,bPN,R.dU];obtain⟨c1,c2⟩:=aKD up (z:=z) (v:=w) (k:=k) (by omega) aYM;have lit:((2^k:Nat):Rat)<=R.pz (2-p)*R.ab w:=by
   have Yw:z≠0:=by intro h0;rw[h0]at c;exact c (by show(bl 0:Int)-p<=0;rw[Fk];omega)
   have t1:=(rE (p:=(z,0)) Yw).1;have ez:R.qz (z,0)=(z:Rat):=by unfold R.qz;dsimp only;rw[R.fB];grind
   rw[ez]at t1;have et:bC (z,0)=(bl z.natAbs:Int)-1:=by unfold bC;dsimp only;omega
   rw[et]at t1;have b2:2<=bl z.natAbs:=by omega
   have aw:R.ab (z:Rat)-1<=R.ab w:=by
    rcases aYM with h |⟨_,h1,h2⟩
    ·rw[h];grind
    ·have:=R.Ny w ((z:Rat)-w);have:R.ab ((z:Rat)-w)<=1:=by rw[R.dY];constructor <;> grind
     have:w+((z:Rat)-w)=(z:Rat):=by grind
     grind
   have e1:R.pz ((bl z.natAbs:Int)-1)=2*R.pz ((bl z.natAbs:Int)-2):=by rw[<-R.hI];congr 1;omega
   have e2:1<=R.pz ((bl z.natAbs:Int)-2):=by rw[<-R.fB];exact R.dO (by omega)
   have e3:((2^k:Nat):Rat)=R.pz (2-p)*R.pz ((bl z.natAbs:Int)-2):=by rw[<-R.kB,<-R.oA,<-hk];congr 1;omega
   rw[e3];have:=R.aH (bQY bFD) (show 0<=R.ab w-R.pz ((bl z.natAbs:Int)-2) by grind);grind
  rw[bLK,vq];have l2:=R.aH (bQY pe) (show 0<=R.pz (2-p)*R.ab w-((2^k:Nat):Rat) by grind);generalize (iQ.nJ up z k:Rat)=cz at *;generalize ((2^k:Nat):Rat)=K at *;generalize R.pz (2-p)=P2 at *;generalize R.pz e=E at *;generalize R.ab w=aw at *;constructor
  ·intro hu;obtain⟨d1,d2⟩:=c1 hu;have m1:=R.aH (bQY pe) (show 0<=w-cz*K by grind);have m2:=R.aH (bQY pe) (show 0<=cz*K+K-w by grind);constructor <;> grind
  ·intro hu;obtain⟨d1,d2⟩:=c2 hu;have m1:=R.aH (bQY pe) (show 0<=cz*K-w by grind);have m2:=R.aH (bQY pe) (show 0<=w+K-cz*K by grind);constructor <;> grind
theorem aNJ(up:Bool){x y:Int×Int}{p:Int}(hp:1<=p/\p<=70000)(bx:bl x.1.natAbs<=100000)(b_y:bl y.1.natAbs<=100000)(ex:-110000<=x.2/\x.2<=1000)(ey:-110000<=y.2/\y.2<=1000) :
  fR (bR.rI up p x y).1 (bR.rI up p x y).2=true/\bl (aK (bR.rI up p x y).1 (bR.rI up p x y).2).1.natAbs<=70001:=by
 unfold bR.rI bR.aSB;dsimp only;have hs:bR.yK p x.1.natAbs y.1.natAbs<=170002:=by unfold bR.yK;omega
 have hQ:bl (bR.Pn x.1.natAbs y.1.natAbs (bR.yK p x.1.natAbs y.1.natAbs))<=270006:=by
  have h1:bl (x.1.natAbs*2^(bR.yK p x.1.natAbs y.1.natAbs))<=270002:=bMN (aHD.aKM bx) (by omega);have h2:bR.Pn x.1.natAbs y.1.natAbs (bR.yK p x.1.natAbs y.1.natAbs)<=x.1.natAbs*2^(bR.yK p x.1.natAbs y.1.natAbs)*2+1:=by
   have:x.1.natAbs*2^(bR.yK p x.1.natAbs y.1.natAbs)/y.1.natAbs<=x.1.natAbs*2^(bR.yK p x.1.natAbs y.1.natAbs):=bUE _ _;unfold bR.Pn;generalize x.1.natAbs*2^(bR.yK p x.1.natAbs y.1.natAbs)/y.1.natAbs=A at *;generalize x.1.natAbs*2^(bR.yK p x.1.natAbs y.1.natAbs)=B at *;split <;> omega
  refine bMN (gD h2) (bMN (yA _ _) ?_);have h3:=Le (x.1.natAbs*2^(bR.yK p x.1.natAbs y.1.natAbs)) 2;have h4:bl 2=2:=rfl;have h5:bl 1=1:=rfl;omega
 generalize bR.yK p x.1.natAbs y.1.natAbs=s at *;generalize bR.Pn x.1.natAbs y.1.natAbs s=Q at *;have hz:(zs (isNeg x.1 !=isNeg y.1) Q).natAbs=Q:=jR _ _;rw[<-hz]at hQ;generalize zs (isNeg x.1 !=isNeg y.1) Q=z at *;unfold bV.mA;split
 ·dsimp only;exact⟨fJ (by omega) (by omega),bMN (qL _ _) (by omega)⟩
 ·dsimp only;have hc:=Ub up z ((bl z.natAbs:Int)-p).toNat p.toNat (by omega);generalize iQ.nJ up z ((bl z.natAbs:Int)-p).toNat=c at *;exact⟨fJ (by omega) (by omega),bMN (qL _ _) (by omega)⟩
theorem Qz{a b u v S C V ρ m q1 q2:Rat}(ha:a+m<=S)(hb:S+m<=b)(aWY:b-a<=ρ*S)(hu:u+m<=C)(hv:C+m<=v)(huv:v-u<=ρ*C)(m0:0<=m)(S0:0<S)(C0:0<C)(C1:C<=1)(r0:0<=ρ)(r1:ρ<=1/64)(hV:V*C=S)(h1:q1*v=a)(h2:q2*u=b) :
  q1+m<=V/\V+m<=q2/\q2<=V+3*ρ*V/\V-2*ρ*V<=q1/\0<V/\0<=q1:=by
 have rS:=R.aH (bQY S0) (show 0<=1/64-ρ by grind);have rC:=R.aH (bQY C0) (show 0<=1/64-ρ by grind);have a0:0<a:=by grind
 have u0:0<u:=by grind
 have v0:0<v:=by grind
 have V0:0<V:=by
  refine Rat.not_le.1 fun hn=>?_
  have:=R.aH (show 0<=-V by grind) (bQY C0);grind
 have aXQ:0<q1:=by
  refine Rat.not_le.1 fun hn=>?_
  have:=R.aH (show 0<=-q1 by grind) (bQY v0);grind
 have bGJ:0<q2:=by
  refine Rat.not_le.1 fun hn=>?_
  have:=R.aH (show 0<=-q2 by grind) (bQY u0);grind
 have mC:=R.aH m0 (show 0<=1-C by grind);have rV:=R.aH r0 (bQY V0);have bCV:=R.aH rV (bQY C0);have rr:=R.aH bCV (show 0<=1/64-ρ by grind);have rq:=R.aH bCV r0;refine⟨?_,?_,?_,?_,V0,bQY aXQ⟩
 ·refine R.dK C0 ?_;have:=R.aH (bQY aXQ) (show 0<=v-C by grind);grind
 ·refine R.dK C0 ?_;have:=R.aH (bQY bGJ) (show 0<=C-u by grind);grind
 ·refine R.dK u0 ?_;have h:=R.aH (show 0<=V+3*ρ*V by grind) (show 0<=u-(C-ρ*C) by grind);have e:(V+3*ρ*V)*(C-ρ*C)=V*C+2*(ρ*V*C)-3*(ρ*V*C*ρ):=by grind
  have e2:ρ*S=ρ*V*C:=by rw[<-hV];grind
  grind
 ·refine R.dK v0 ?_;have h:=R.aH (show 0<=V-2*ρ*V by have:=R.aH (bQY V0) (show 0<=1/64-ρ by grind);grind) (show 0<=(C+ρ*C)-v by grind);have e:(V-2*ρ*V)*(C+ρ*C)=V*C-ρ*V*C-2*(ρ*V*C*ρ):=by grind
  have e2:ρ*S=ρ*V*C:=by rw[<-hV];grind
  grind
theorem Xv{p:Int×Int}:decide (cR p (0,0)<0)=decide (R.qz p<0):=by
 have h:=xZ (p:=p) (q:=(0,0));rw[R.lP (p:=(0,0)) rfl]at h
 by_cases c:R.qz p<0
 ·rw[decide_eq_true c,decide_eq_true (h.2 c)]
 ·rw[decide_eq_false c,decide_eq_false fun hh=>c (h.1 hh)]
def Ru(p:Int×Int):Prop:=bl p.1.natAbs<=100000/\-110000<=p.2/\p.2<=1000
theorem Mc{p:Int×Int}(hb:bl p.1.natAbs<=100000)(Dq:p.1≠0)(h0:R.pz (-1300)<=R.ab (R.qz p))(h1:R.ab (R.qz p)<=2):Ru p:=by
 have a:=Fv Dq h0;have b:bC p<=1:=zU Dq (by rw[R.aNK];exact h1);have c:=rQ (n:=p.1.natAbs) (by omega);unfold bC at a b;exact⟨hb,by omega,by omega⟩
theorem Wi{s c:(Int×Int)×(Int×Int)}{S C V ρ m:Rat}{p:Int}(hs:Bx s S (ρ*R.ab S) m)(hc:Bx c C (ρ*R.ab C) m)(S0:S≠0)(C0:0<C)(C1:C<=1)(r0:0<=ρ)(r1:ρ<=1/64)(hV:V*C=S)(hp:4<=p/\p<=70000)
  (z1:Ru s.1) (z2:Ru s.2) (z3:Ru c.1) (z4:Ru c.2) :
  fR (iX.aAL p s.1 c.1 c.2).1 (iX.aAL p s.1 c.1 c.2).2=true/\fR (iX.aAM p s.2 c.1 c.2).1 (iX.aAM p s.2 c.1 c.2).2=true /\
  Bx (aK (iX.aAL p s.1 c.1 c.2).1 (iX.aAL p s.1 c.1 c.2).2,aK (iX.aAM p s.2 c.1 c.2).1 (iX.aAM p s.2 c.1 c.2).2) V ((5*ρ+3*R.pz (2-p))*R.ab V) m:=by
 obtain⟨s1,s2,s3,s4,m0,s6,s7,s8⟩:=hs;obtain⟨c1,c2,c3,c4,_,c6,c7,c8⟩:=hc;rw[R.bS (bQY C0)]at c8;have rC:=R.aH (bQY C0) (show 0<=1/64-ρ by grind);have u0:0<R.qz c.1:=by grind
 have v0:0<R.qz c.2:=by grind
 have un:c.1.1≠0:=Kp (by grind);have vn:c.2.1≠0:=Kp (by grind);have e2:=R.dT (2-p);have e3:R.pz (2-p)<=1/4:=by
  have h:=R.dO (show 2-p<=-2 by omega);have h2:=R.yY 2;rw[show -((2:Nat):Int)=-2 by rfl]at h2;rw[h2]at h;have h3:R.hf 2=1/4:=by simp[R.hf];grind
  grind
 have uK:∀up (x y:Int×Int),Ru x->Ru y->fR (bR.rI up p x y).1 (bR.rI up p x y).2=true/\iL (aK (bR.rI up p x y).1 (bR.rI up p x y).2)/\bl (aK (bR.rI up p x y).1 (bR.rI up p x y).2).1.natAbs<=100000:=by
  intro up x y hx hy;obtain⟨h1,h2⟩:=aNJ up (x:=x) (y:=y) (p:=p) (by omega) hx.1 hy.1 hx.2 hy.2;refine⟨h1,⟨by omega,?_,fun h=>zB h,fun h=>Gt h⟩,by omega⟩;unfold fR at h1;unfold aK;split
  ·dsimp only;omega
  ·rename_i Dq;rw[decide_eq_false Dq,bNS,bLX]at h1;exact⟨of_decide_eq_true h1.1,of_decide_eq_true h1.2⟩
 have aFF:∀a b:Rat,b≠0->a/b*b=a:=fun a b h=>by grind
 unfold iX.aAL iX.aAM;rw[Xv,Xv]
 by_cases hS:0<S
 ·rw[R.bS (bQY hS)]at s8;have rS:=R.aH (bQY hS) (show 0<=1/64-ρ by grind);rw[decide_eq_false (show ¬R.qz s.1<0 by grind),decide_eq_false (show ¬R.qz s.2<0 by grind),cond_false,cond_false];obtain⟨d1,d2,d3,d4,V0,q0⟩:=Qz (q1:=R.qz s.1/R.qz c.2) (q2:=R.qz s.2/R.qz c.1) s6 s7 s8 c6 c7 c8 m0 hS C0 C1 r0 r1 hV (aFF _ _ (by grind)) (aFF _ _ (by grind));have n1:=(Ey false (x:=s.1) (y:=c.2) (p:=p) (q:=R.qz s.1/R.qz c.2) (by omega) vn (aFF _ _ (by grind))).1 rfl;have n2:=(Ey true (x:=s.2) (y:=c.1) (p:=p) (q:=R.qz s.2/R.qz c.1) (by omega) un (aFF _ _ (by grind))).2 rfl;obtain⟨i1,p1,b1⟩:=uK false s.1 c.2 z1 z4;obtain⟨i2,p2,b2⟩:=uK true s.2 c.1 z2 z3;rw[R.bS q0]at n1;rw[R.bS (show 0<=R.qz s.2/R.qz c.1 by grind)]at n2;refine⟨i1,i2,p1,p2,b1,b2,m0,by grind,by grind,?_⟩;rw[R.bS (bQY V0)];generalize R.qz s.1/R.qz c.2=q1 at *;generalize R.qz s.2/R.qz c.1=q2 at *;have k1:=R.aH (bQY e2) (show 0<=V+3*ρ*V-q2 by grind);have k2:=R.aH (bQY e2) (show 0<=V-q1 by grind);have k3:=R.aH (R.aH (bQY e2) (bQY V0)) (show 0<=1/64-ρ by grind);dsimp only;grind
 ·have bEV:0 < -S:=by grind
  have eS:R.ab S=-S:=by unfold R.ab;rw[if_neg (by grind)]
  rw[eS]at s8;have rS:=R.aH (bQY bEV) (show 0<=1/64-ρ by grind);rw[decide_eq_true (show R.qz s.1<0 by grind),decide_eq_true (show R.qz s.2<0 by grind),cond_true,cond_true];have f1:-(R.qz s.2/R.qz c.2)*R.qz c.2=-R.qz s.2:=by have:=aFF (R.qz s.2) (R.qz c.2) (by grind);grind
  have f2:-(R.qz s.1/R.qz c.1)*R.qz c.1=-R.qz s.1:=by have:=aFF (R.qz s.1) (R.qz c.1) (by grind);grind
  obtain⟨d1,d2,d3,d4,V0,q0⟩:=Qz (V:=-V) (a:=-R.qz s.2) (b:=-R.qz s.1) (S:=-S) (q1:=-(R.qz s.2/R.qz c.2)) (q2:=-(R.qz s.1/R.qz c.1)) (by grind) (by grind) (by grind) c6 c7 c8 m0 bEV C0 C1 r0 r1 (by grind) f1 f2;have n1:=(Ey false (x:=s.1) (y:=c.1) (p:=p) (q:=R.qz s.1/R.qz c.1) (by omega) un (aFF _ _ (by grind))).1 rfl;have n2:=(Ey true (x:=s.2) (y:=c.2) (p:=p) (q:=R.qz s.2/R.qz c.2) (by omega) vn (aFF _ _ (by grind))).2 rfl;obtain⟨i1,p1,b1⟩:=uK false s.1 c.1 z1 z3;obtain⟨i2,p2,b2⟩:=uK true s.2 c.2 z2 z4;rw[<-R.gT,R.bS (show 0<=-(R.qz s.1/R.qz c.1) by grind)]at n1;rw[<-R.gT,R.bS q0]at n2;refine⟨i1,i2,p1,p2,b1,b2,m0,by grind,by grind,?_⟩;rw[<-R.gT,R.bS (bQY V0)];generalize R.qz s.2/R.qz c.2=q1 at *;generalize R.qz s.1/R.qz c.1=q2 at *;have k1:=R.aH (bQY e2) (show 0<=-V+3*ρ*-V+q2 by grind);have k2:=R.aH (bQY e2) (show 0<=-V+q1 by grind);have k3:=R.aH (R.aH (bQY e2) (bQY V0)) (show 0<=1/64-ρ by grind);dsimp only;grind
theorem Er{p:Int×Int}(h:Ru p):Ru (iT.uM p):=by
 obtain⟨a,b⟩:=h;refine⟨?_,b⟩;show bl (-p.1).natAbs<=_;rw[bSL];exact a
theorem aCJ{a b:Int×Int}(h:0<R.qz a)(aWY:R.qz a<=R.qz b):gL.wG a b=1:=by
 unfold gL.wG;have z:R.qz (0,0)=0:=R.lP rfl;rw[if_neg (fun hh=>by have:=xZ.1 hh;grind),if_pos (sL.2 (by grind))]
theorem aCK{a b:Int×Int}(h:R.qz b<0):gL.wG a b=-1:=by
 unfold gL.wG;have z:R.qz (0,0)=0:=R.lP rfl;rw[if_pos (xZ.2 (by grind))]
theorem aNI{s c:(Int×Int)×(Int×Int)}{S C V ρ m:Rat}{p:Int}(hs:Bx s S (ρ*R.ab S) m)(hc:Bx c C (ρ*R.ab C) m)(S0:S≠0)(C0:C≠0)(C1:R.ab C<=1)(r0:0<=ρ)(r1:ρ<=1/64)(hV:V*C=S)(hp:4<=p/\p<=70000)
  (z1:Ru s.1) (z2:Ru s.2) (z3:Ru c.1) (z4:Ru c.2) :
  gL.wG c.1 c.2≠0/\fR (iX.Oq p s.1 s.2 c.1 c.2).1 (iX.Oq p s.1 s.2 c.1 c.2).2=true/\fR (iX.Ot p s.1 s.2 c.1 c.2).1 (iX.Ot p s.1 s.2 c.1 c.2).2=true /\
  Bx (aK (iX.Oq p s.1 s.2 c.1 c.2).1 (iX.Oq p s.1 s.2 c.1 c.2).2,aK (iX.Ot p s.1 s.2 c.1 c.2).1 (iX.Ot p s.1 s.2 c.1 c.2).2) V ((5*ρ+3*R.pz (2-p))*R.ab V) m:=by
 have lo:=hc.lo;have hi:=hc.hi;have m0:=hc.m0;have wd:=hc.wd
 by_cases c0:0<C
 ·rw[R.bS (bQY c0)]at C1 wd;have rC:=R.aH (bQY c0) (show 0<=1/64-ρ by grind);have sg:=aCJ (a:=c.1) (b:=c.2) (by grind) (by grind);unfold iX.Oq iX.Ot;rw[sg,show((1:Int)==-1)=false from rfl];simp only[cond_false];exact⟨by decide,Wi hs hc S0 c0 C1 r0 r1 hV hp z1 z2 z3 z4⟩
 ·have e:R.ab C=-C:=by unfold R.ab;rw[if_neg (by grind)]
  rw[e]at C1 wd;have rC:=R.aH (show 0<=-C by grind) (show 0<=1/64-ρ by grind);have sg:=aCK (a:=c.1) (b:=c.2) (by grind);unfold iX.Oq iX.Ot;rw[sg,show((-1:Int)==-1)=true from rfl];simp only[cond_true];have nU:=hs.neg;have bEO:=hc.neg;rw[<-R.gT]at nU bEO;have s0:-S≠0:=by grind
  have c1:0 < -C:=by grind
  have v1:V*-C=-S:=by grind
  have q:=Wi nU bEO s0 c1 C1 r0 r1 v1 hp (Er z2) (Er z1) (Er z4) (Er z3);dsimp only at q;exact⟨by decide,q⟩
theorem Wp{s:(Int×Int)×(Int×Int)}{V W m:Rat}{n:Int}(pl:iL s.1)(ph:iL s.2)(m0:0<=m)(lo:R.qz s.1+m<=V)(hi:V+m<=R.qz s.2)(wd:R.qz s.2-R.qz s.1<=W)(hn:1<=n/\n<=70000)(h1:R.ab (R.qz s.1)<=R.pz 1100)(h2:R.ab (R.qz s.2)<=R.pz 1100) :
  vW false s.1 n=true/\vW true s.2 n=true/\Bx (shD false s.1 n,shD true s.2 n) V (W+R.pz (1-n)*(R.ab (R.qz s.1)+R.ab (R.qz s.2))) m:=by
 have aLO:∀{p:Int×Int},iL p->R.ab (R.qz p)<=R.pz 1100->aXG p:=by
  intro p hp hv;refine⟨hp,?_⟩
  by_cases h0:p.1=0
  ·have hb:M.bl p.1.natAbs=0:=by rw[h0];rfl
   have:=hp.2.2.1 h0;omega
  ·have:=zU h0 hv;unfold bC at this;omega
 obtain⟨a1,a2⟩:=Kh (up:=false) (n:=n) (aLO pl h1) hn.1;obtain⟨a3,a4⟩:=Kh (up:=true) (n:=n) (aLO ph h2) hn.1;have n1:=(Bt false s.1 hn.1).1 rfl;have n2:=(Bt true s.2 hn.1).2 rfl;have b1:=zZ false s.1 n.toNat;have b2:=zZ true s.2 n.toNat;rw[show((n.toNat:Nat):Int)=n by omega]at b1 b2;exact⟨a1,a3,a2,a4,by dsimp only;omega,by dsimp only;omega,m0,by dsimp only;grind,by dsimp only;grind,by dsimp only;grind⟩
theorem aCS{s:(Int×Int)×(Int×Int)}{V W m:Rat}{n:Int}(h:Bx s V W m)(hn:1<=n/\n<=70000)(h1:R.ab (R.qz s.1)<=R.pz 1100)(h2:R.ab (R.qz s.2)<=R.pz 1100) :
  vW false s.1 n=true/\vW true s.2 n=true/\Bx (shD false s.1 n,shD true s.2 n) V (W+R.pz (1-n)*(R.ab (R.qz s.1)+R.ab (R.qz s.2))) m :=
 Wp h.pl h.ph h.m0 h.lo h.hi h.wd hn h1 h2
end M
namespace W
open Go AI M
namespace oL
def Ke(x:dR):Prop:=aL x/\((dv x).1≠0->cR (((dv x).1.natAbs:Nat),(dv x).2) (1,0)<=0/\-524288<=(dv x).2+(bl (dv x).1.natAbs:Nat)-1)
end oL
namespace nN
def E:=mE [(45,jZ.aG),(158,Kc.aG),(14,aHB.aG),(203,Bl.aG)] 62 [] [(10,[30,31,32]),(4,[1,20,21,22]),(3,[1])] [3]
def aE:=bd f201
theorem aW:Nk E aE:=nk
def J3(a:Nat)(b:Nat->Bool)(c:Nat->List Int)(d:Nat->Int):=kV E f201 aE 3 [(A.v (V.one (L.rows 3 a fun i=>[sc (bool (b i)),ints u64 (c i),sc (int i64 (d i))])),none)]
def L4(a:Nat)(b:Nat->Bool)(c:Nat->List Int)(d:Nat->Int)(e:Nat)(f:Nat->Bool)(g:Nat->List Int)(h:Nat->Int) j k:=nG E f201 aE 4 [(A.v (V.one (L.rows 3 a fun i=>[sc (bool (b i)),ints u64 (c i),sc (int i64 (d i))])),none),(A.v (V.one (L.rows 3 e fun i=>[sc (bool (f i)),ints u64 (g i),sc (int i64 (h i))])),none),bI j,bI k]
def Ip(a:Nat)(b:Nat->Bool)(c:Nat->List Int)(d:Nat->Int) e f:=nG E f201 aE 10 [(A.v (V.one (L.rows 3 a fun i=>[sc (bool (b i)),ints u64 (c i),sc (int i64 (d i))])),none),bI e,bI f]
theorem start p (a:dR) (b:dR):aF E f201 aE [D.s (sc (int i64 p)),D.rows 3 2 fun i=>[sc (bool (t2 a b i).fst),ints u64 (t2 a b i).snd.fst,sc (int i64 (t2 a b i).snd.snd)]]=letI A:=some [D.s (sc (int i64 1))];aB (decide (p<1)) A (aB (decide (67000<p)) A (nN.J3 2 (fun i=>(t2 a b i).fst) (fun i=>(t2 a b i).snd.fst) fun i=>(t2 a b i).snd.snd)):=eJ aW
theorem gH a b c d:J3 a b c d=nN.L4 a (fun i=>b i) (fun i=>c i) (fun i=>d i) a (fun i=>b i) (fun i=>c i) (fun i=>d i) (a:Int) 0:=cJ aW
theorem kS a b c d e f g h j k:L4 a b c d e f g h j k=aB (decide (k<j)) (if 0<=k/\k<(e:Int)then aP (aL (f k.toNat,g k.toNat,h k.toNat)) (nN.L4 a (fun i=>b i) (fun i=>c i) (fun i=>d i) e (fun i=>f i) (fun i=>g i) (fun i=>h i) j (i64.wrap (k+1)))else none) (nN.Ip a (fun i=>b i) (fun i=>c i) (fun i=>d i) (a:Int) 0):=lJ aW
theorem sE a b c d e f:Ip a b c d e f=letI F:=some [D.s (sc (int i64 5))];letI C:=(b f.toNat,c f.toNat,d f.toNat);letI B:=(false,c f.toNat,d f.toNat);letI A:=(isNeg (aK 1 0).fst,M6.dg (aK 1 0).fst.natAbs,(aK 1 0).snd);aB (decide (f<e)) (if 0<=f/\f<(a:Int)then aB ((↑(c f.toNat).length:Int)==(0:Int)) (nN.Ip a (fun i=>b i) (fun i=>c i) (fun i=>d i) e (i64.wrap (f+1))) (aP ((-9223372036854775808:Int)<=(1:Int)/\(1:Int)<(9223372036854775808:Int)) (aP (aL B/\aL A) (aP (aL C) (aB (decide (0<lG (bJ.lK (dv B) (dv A)) (bJ.lI (dv B) (dv A)))) F (aB (decide ((if(dv C).fst=0 then(0:Int)else d f.toNat+(↑(bl (M6.val (c f.toNat))):Int)-(1:Int))<(-524288:Int))) F (nN.Ip a (fun i=>b i) (fun i=>c i) (fun i=>d i) e (i64.wrap (f+1))))))))else none) (some [D.s (sc (int i64 0))]):=lJ aW
abbrev Ke:=oL.Ke
def sp(p:Int)(a:dR×dR):Prop×List D:=((1<=p/\p<=67000)/\Ke a.1/\Ke a.2,[.s (.sc (.int .i64 0))])
theorem LB(n:Nat)(f:Nat->dR)(hn:n<=1000)(hf:∀i,i<n->Ke (f i)):∀d k:Nat,k+d=n->Ip n (fun i=>(f i).1) (fun i=>(f i).2.1) (fun i=>(f i).2.2) (n:Int) (k:Int)=some [.s (.sc (.int .i64 0))]
 |0,k,h=>by rw[sE,aI]
 |d+1,k,h=>by
  have e:i64.wrap ((k:Int)+1)=((k+1:Nat):Int):=by rw[wrap_i64];omega
  have r:=LB n f hn hf d (k+1) (by omega);obtain⟨hx,ht⟩:=hf k (by omega);have hz:=M6.cO hx.Fg;have ha:(dv (f k)).1.natAbs=M6.val (f k).2.1:=iO ((f k).1,(f k).2.1);rw[sE,aO,aU,bPN,e]
  by_cases h0:(f k).2.1.length=0
  ·rw[cC];exact r
  ·have hv:(dv (f k)).1≠0:=fun hc=>h0 (hz.2 (by omega))
   obtain⟨t1,t2⟩:=ht hv;have n1:aK 1 0=(1,0):=by decide +kernel
   have pn:iL (1,0):=⟨by decide +kernel,⟨by decide,by decide⟩,fun h=>absurd h (by decide),fun _=>by decide⟩;have v1:=cU ((1,0):Int×Int);have ok:aL (false,(f k).2.1,(f k).2.2):=⟨⟨hx.1.1,fun hf=>(by cases hf),hx.1.len⟩,hx.2⟩;have vx:dv (false,(f k).2.1,(f k).2.2)=((((dv (f k)).1.natAbs:Nat):Int),(dv (f k)).2):=by rw[ha];rfl
   have bJF:((f k).1,(f k).2.1,(f k).2.2)=f k:=rfl;simp only[n1,v1,vx,bJF];rw[bP,gP ⟨by decide,by decide⟩,gP ⟨ok,cF pn⟩,gP hx];have bGB:¬0<lG (bJ.lK ((((dv (f k)).1.natAbs:Nat):Int),(dv (f k)).2) (1,0)) (bJ.lI ((((dv (f k)).1.natAbs:Nat):Int),(dv (f k)).2) (1,0)):=Int.not_lt.2 t1;have bGA:¬(f k).2.2+((bl (M6.val (f k).2.1):Nat):Int)-1 < -524288:=by
    rw[ha]at t2;have:(dv (f k)).2=(f k).2.2:=rfl;omega
   rw[aI bGB,if_neg hv,aI bGA];exact r
theorem LA(n:Nat)(f:Nat->dR)(hn:n<=1000)(hf:∀i,i<n->Ke (f i)):∀d k:Nat,k+d=n->L4 n (fun i=>(f i).1) (fun i=>(f i).2.1) (fun i=>(f i).2.2) n (fun i=>(f i).1) (fun i=>(f i).2.1) (fun i=>(f i).2.2) (n:Int) (k:Int)=some [.s (.sc (.int .i64 0))]
 |0,k,h=>by rw[kS,aI];exact LB n f hn hf n 0 (by omega)
 |d+1,k,h=>by
  have e:i64.wrap ((k:Int)+1)=((k+1:Nat):Int):=by rw[wrap_i64];omega
  rw[kS,aO,aU,bPN,gP (hf k (by omega)).1,e];exact LA n f hn hf d (k+1) (by omega)
theorem spec:fK E f201 aE (pN .i64) (aAN (.pair sB (.pair (sI .u64) (sN .i64))) (false,[],0)) sp:=by
 rintro p a ⟨⟨p0,p1⟩,h⟩;have hf:∀i,i<2->Ke (t2 a.1 a.2 i):=fun i hi=>by
  obtain rfl |rfl:i=0\/i=1:=by omega
  ·exact h.1
  ·exact h.2
 refine(start p a.1 a.2).trans ?_;rw[aI,aI,gH];exact LA 2 (fun i=>t2 a.1 a.2 i) (by decide) hf 2 0 (by omega)
def aG:cX:=orc2 (pN .i64) (aAN (.pair sB (.pair (sI .u64) (sN .i64))) (false,[],0)) sp
theorem ok:OK 201 aG:=(eB E aE (aA jZ.ok (aA Kc.ok (aA aHB.ok (aA Bl.ok aD)))) func201).lE rfl spec
end nN
namespace Cy
def E:=mE [(67,rZ.aG),(201,nN.aG)] 21 [20] [(3,[1,2])] [3]
def aE:=bd f156
theorem aW:Nk E aE:=nk
def J3 a b c d e f g:=kV E f156 aE 3 [bI a,dG 1 44 [cI b,eT c,cP d,cI e,eT f,cP g]]
theorem start a c d e f g b:aF E f156 aE [D.agg [sc (bool a),ints u64 c,sc (int i64 d),sc (bool e),ints u64 f,sc (int i64 g)],D.s (sc (int i64 b))]=letI A:=some [D.s (sc (int i64 1))];aB (decide (b<1)) A (aB (decide (67000<b)) A (Cy.J3 b a c d e f g)):=eJ aW
theorem gH a b c d e f g:J3 a b c d e f g=aP (eG (b,c,d,e,f,g)) (aP ((1<=a/\a<=67000)/\nN.Ke (b,c,d)/\nN.Ke (e,f,g)) (some [D.s (sc (int i64 0))])):=cJ aW
def sp(s:rY)(p:Int):Prop×List D:=((1<=p/\p<=67000)/\eG s/\oL.Ke (gN s)/\oL.Ke (gO s),[.s (.sc (.int .i64 0))])
theorem spec:fK E f156 aE sZ (pN .i64) sp:=by
 rintro s p ⟨⟨p0,p1⟩,h1,h2,h3⟩;refine(start s.1 s.2.1 s.2.2.1 s.2.2.2.1 s.2.2.2.2.1 s.2.2.2.2.2 p).trans ?_;rw[aI,aI]
 first
  |exact(gP h1).trans (gP ⟨⟨p0,p1⟩,h2,h3⟩)
  | (rw[gH];exact(gP h1).trans (gP ⟨⟨p0,p1⟩,h2,h3⟩))
def aG:cX:=orc2 sZ (pN .i64) sp
theorem ok:OK 156 aG:=(eB E aE (aA rZ.ok (aA nN.ok aD)) func156).lE rfl spec
end Cy
namespace cS
def E:=mE [(156,Cy.aG),(120,Da.aG),(158,Kc.aG),(159,gL.aG),(160,bD.aG)] 61 [17] [(10,[1,2,4,9,10]),(13,[1,4,9,10])] [10,13]
def aE:=bd f116
theorem aW:Nk E aE:=nk
def aAI a b c d e f g h i j k l m n o p q:=kV E f116 aE 10 [bI a,dG 1 44 [cI b,eT c,cP d,cI e,eT f,cP g],dG 2 44 [cI h,sc (slice none 0 0),cP i,cI j,sc (slice none 0 0),cP k],dG 3 29 [cI l,eT m,cP n],dG 4 29 [cI o,eT p,cP q]]
def Ln a b c d e f g h i j:=kV E f116 aE 13 [bI a,dG 1 44 [cI b,sc (slice none 0 0),cP c,cI d,sc (slice none 0 0),cP e],dG 2 29 [cI f,sc (slice none 0 0),cP g],dG 3 29 [cI h,eT i,cP j]]
def aQG a b c d e f g h i j k:=kV E f116 aE 13 [bI a,dG 1 44 [cI b,sc (slice none 0 0),cP c,cI d,sc (slice none 0 0),cP e],dG 2 29 [cI f,eT g,cP h],dG 3 29 [cI i,eT j,cP k]]
theorem start a c d e f g b:aF E f116 aE [D.agg [sc (bool a),ints u64 c,sc (int i64 d),sc (bool e),ints u64 f,sc (int i64 g)],D.s (sc (int i64 b))]=letI C:=(false,f,g);letI B:=(false,c,d);letI A:=(a,c,d,e,f,g);aP ((1<=b/\b<=67000)/\eG A/\oL.Ke (gN A)/\oL.Ke (gO A)) (aP (aL B/\aL C) (aC (lG (bJ.lK (dv B) (dv C)) (bJ.lI (dv B) (dv C))) fun h=>aB (decide (0<h)) (cS.aAI b a c d e f g false 0 false 0 false f g false c d) (cS.aAI b a c d e f g false 0 false 0 false c d false f g))):=eJ aW
theorem It a b c d e f g h i j k l m n o p q:aAI a b c d e f g h i j k l m n o p q=letI A:=(b,c,d,e,f,g);aP (eG A) (aC (gL.wG (dv (gN A)) (dv (gO A))) fun r=>aB (r==0) (cS.Ln a h i j k false 0 o p q) (cS.aQG a h i j k l m n o p q)):=cJ aW
theorem vE a b c d e f g h i j:Ln a b c d e f g h i j=letI A:=i64.wrap (a+2);letI C:=bD.qQ (dv (h,i,j)) A;letI B:=bD.pU (dv (f,[],g)) A;aP (bD.Zy (h,i,j) A) (aC (isNeg C.fst) fun k=>aC (M6.dg C.fst.natAbs) fun l=>aC C.snd fun m=>aP (bD.Zy (f,[],g) A) (aC (isNeg B.fst) fun n=>aC (M6.dg B.fst.natAbs) fun o=>aC B.snd fun p=>some [D.agg [sc (bool k),ints u64 l,sc (int i64 m),sc (bool n),ints u64 o,sc (int i64 p)],D.s (sc (int i64 0))])):=cJ aW
theorem aKW a b c d e f g h i j k:aQG a b c d e f g h i j k=letI A:=i64.wrap (a+2);letI C:=bD.pU (dv (f,g,h)) A;letI B:=bD.qQ (dv (i,j,k)) A;aP (bD.Zy (i,j,k) A) (aC (isNeg B.fst) fun l=>aC (M6.dg B.fst.natAbs) fun m=>aC B.snd fun n=>aP (bD.Zy (f,g,h) A) (aC (isNeg C.fst) fun o=>aC (M6.dg C.fst.natAbs) fun p=>aC C.snd fun q=>some [D.agg [sc (bool l),ints u64 m,sc (int i64 n),sc (bool o),ints u64 p,sc (int i64 q)],D.s (sc (int i64 0))])):=cJ aW
def Sk(x:dR):dR:=(false,x.2.1,x.2.2)
def zG(s:rY):dR:=bif decide (0<cR (dv (Sk (gN s))) (dv (Sk (gO s))))then Sk (gN s)else Sk (gO s)
def sJ(s:rY):dR:=bif gL.wG (dv (gN s)) (dv (gO s))==0 then(false,[],0)else bif decide (0<cR (dv (Sk (gN s))) (dv (Sk (gO s))))then Sk (gO s)else Sk (gN s)
def aKK(s:rY)(p:Int):Prop:=((1<=p/\p<=67000)/\eG s/\oL.Ke (gN s)/\oL.Ke (gO s))/\(bD.sp (zG s) (p+2)).1/\(bD.sp (sJ s) (p+2)).1
def sp(s:rY)(p:Int):Prop×List D:=(aKK s p,[yE (bD.qQ (dv (zG s)) (p+2)) (bD.pU (dv (sJ s)) (p+2)),.s (.sc (.int .i64 0))])
theorem JN{s:rY}{p:Int}(hp:1<=p/\p<=67000)(hs:eG s){n f:dR}(hf:(bD.sp f (p+2)).1)(hn:(bD.sp (bif gL.wG (dv (gN s)) (dv (gO s))==0 then(false,[],0)else n) (p+2)).1) :
  aAI p s.1 s.2.1 s.2.2.1 s.2.2.2.1 s.2.2.2.2.1 s.2.2.2.2.2 false 0 false 0 n.1 n.2.1 n.2.2 f.1 f.2.1 f.2.2=some [yE (bD.qQ (dv f) (p+2)) (bD.pU (dv (bif gL.wG (dv (gN s)) (dv (gO s))==0 then(false,[],0)else n)) (p+2)),.s (.sc (.int .i64 0))]:=by
 have w:i64.wrap (p+2)=p+2:=wrap_i64;rw[It,gP hs,aM];show aB (gL.wG (dv (gN s)) (dv (gO s))==0) _ _=_
 by_cases c:gL.wG (dv (gN s)) (dv (gO s))=0
 ·rw[show(gL.wG (dv (gN s)) (dv (gO s))==0)=true from beq_iff_eq.2 c,cond_true]at hn ⊢;show Ln _ _ _ _ _ _ _ _ _ _=_;rw[vE];simp only[w,aM];exact(gP hf).trans ((gP hn).trans rfl)
 ·rw[show(gL.wG (dv (gN s)) (dv (gO s))==0)=false from beq_eq_false_iff_ne.2 c,cond_false]at hn ⊢;show aQG _ _ _ _ _ _ _ _ _ _ _=_;rw[aKW];simp only[w,aM];exact(gP hf).trans ((gP hn).trans rfl)
theorem spec:fK E f116 aE sZ (pN .i64) sp:=by
 rintro s p ⟨h1,h2,h3⟩;refine(start s.1 s.2.1 s.2.2.1 s.2.2.2.1 s.2.2.2.2.1 s.2.2.2.2.2 p).trans ?_;have ab:∀x:dR,aL x->aL (Sk x):=fun x hx=>⟨⟨hx.1.1,fun hf=>(by cases hf),hx.1.len⟩,hx.2⟩
 refine(gP h1).trans ((gP ⟨ab _ h1.2.1.1,ab _ h1.2.1.2.1⟩).trans ?_);rw[aM];unfold sp;unfold zG sJ at *;dsimp only;show aB (decide (0<cR (dv (Sk (gN s))) (dv (Sk (gO s))))) _ _=_
 by_cases c:0<cR (dv (Sk (gN s))) (dv (Sk (gO s)))
 ·rw[aO c];rw[decide_eq_true c,cond_true,cond_true]at *;exact JN h1.1 h1.2.1 h2 h3
 ·rw[aI c];rw[decide_eq_false c,cond_false,cond_false]at *;exact JN h1.1 h1.2.1 h2 h3
def aG:cX:=orc2 sZ (pN .i64) sp
theorem ok:OK 116 aG:=(eB E aE (aA Cy.ok (aA Da.ok (aA Kc.ok (aA gL.ok (aA bD.ok aD))))) func116).lE rfl spec
end cS
namespace rU
def E:=mE [(156,Cy.aG),(157,eK.aG)] 27 [9] [] []
def aE:=bd f115
theorem aW:Nk E aE:=nk
theorem start a c d e f g b:aF E f115 aE [D.agg [sc (bool a),ints u64 c,sc (int i64 d),sc (bool e),ints u64 f,sc (int i64 g)],D.s (sc (int i64 b))]=letI F:=(a,c,d,e,f,g);letI A:=i64.wrap (b+2);letI C:=eK.Mb (dv (e,f,g)) A;letI B:=eK.Ma (dv (a,c,d)) A;aP ((1<=b/\b<=67000)/\eG F/\oL.Ke (gN F)/\oL.Ke (gO F)) (aP (eK.aIJ (a,c,d) A) (aC (isNeg B.fst) fun h=>aC (M6.dg B.fst.natAbs) fun i=>aC B.snd fun j=>aP (eK.aIJ (e,f,g) A) (aC (isNeg C.fst) fun k=>aC (M6.dg C.fst.natAbs) fun l=>aC C.snd fun m=>some [D.agg [sc (bool h),ints u64 i,sc (int i64 j),sc (bool k),ints u64 l,sc (int i64 m)],D.s (sc (int i64 0))]))):=eJ aW
def aBZ(s:rY)(p:Int):Prop:=((1<=p/\p<=67000)/\eG s/\oL.Ke (gN s)/\oL.Ke (gO s))/\(eK.sp (gN s) (p+2)).1/\(eK.sp (gO s) (p+2)).1
def sp(s:rY)(p:Int):Prop×List D:=(aBZ s p,[yE (eK.Ma (dv (gN s)) (p+2)) (eK.Mb (dv (gO s)) (p+2)),.s (.sc (.int .i64 0))])
theorem spec:fK E f115 aE sZ (pN .i64) sp:=by
 rintro s p ⟨h1,h2,h3⟩;have p0:=h1.1;refine(start s.1 s.2.1 s.2.2.1 s.2.2.2.1 s.2.2.2.2.1 s.2.2.2.2.2 p).trans ?_;have w:i64.wrap (p+2)=p+2:=wrap_i64;simp only[w];rw[gP h1];simp only[aM];exact(gP h2).trans ((gP h3).trans rfl)
def aG:cX:=orc2 sZ (pN .i64) sp
theorem ok:OK 115 aG:=(eB E aE (aA Cy.ok (aA eK.ok aD)) func115).lE rfl spec
end rU
end W
namespace R
def fv(fn:Int)(x:Rat)(k:Int):Rat:=if fn=1 then Sf x k else if fn=2 then Cf x k else Sf x k/Cf x k
end R
namespace M
open Go AI W
def mg(p:Int):Rat:=if p<2500 then 0 else R.pz (-p-1500)
theorem aLP(p:Int):0<=mg p:=by
 unfold mg;split
 ·exact bSF
 ·exact bQY (R.dT _)
theorem aLQ(p:Int):mg p<=R.pz (-p-1500):=by
 unfold mg;split
 ·exact bQY (R.dT _)
 ·exact bSF
structure kN(u v:Int×Int)(a:Rat)(p:Int):Prop where
 pu:iL u
 pv:iL v
 a0:R.pz (-1074)<=a
 a1:a<=79/100
 lu:R.ab (R.qz u)<=a
 lv:a<=R.ab (R.qz v)
 wd:R.ab (R.qz v)-R.ab (R.qz u)<=R.pz (-p-23)*a
theorem aNL{p:Int}(hp:-6<=p):R.pz (-p-23)<=1/131072:=by
 have:=R.dO (show -p-23<=-17 by omega);have e:=R.fZ 0 (n:=17) (c:=131072) (by norm_cast);rw[R.fB,show(0:Int)-((17:Nat):Int)=-17 by rfl]at e;grind
theorem kN.more{u v:Int×Int}{a:Rat}{p:Int}(h:kN u v a p)(hp:-6<=p):0<a/\3/4*a<=R.ab (R.qz u)/\R.ab (R.qz v)<=5/4*a/\R.ab (R.qz v)<=4/5/\u.1≠0/\v.1≠0/\-1075<=bC u/\-1075<=bC v:=by
 obtain⟨_,_,a0,a1,lu,lv,wd⟩:=h;have ap:0<a:=by have:=R.dT (-1074);grind
 have bFX:=aNL hp;have m:=R.aH (bQY ap) (show 0<=1/131072-R.pz (-p-23) by grind);have u1:3/4*a<=R.ab (R.qz u):=by grind
 have Vj:u.1≠0:=Kp (by intro hz;rw[hz,R.bS bSF]at u1;grind);have aAK:v.1≠0:=Kp (by intro hz;rw[hz,R.bS bSF]at lv;grind);have t:R.pz (-1075)*2=R.pz (-1074):=by have:=R.nD (-1074);rw[show(-1074:Int)-1=-1075 by rfl]at this;exact this
 have tp:=R.dT (-1075);exact⟨ap,u1,by grind,by grind,Vj,aAK,Fv Vj (by grind),Fv aAK (by grind)⟩
theorem aCD{u v:Int×Int}{a:Rat}{p n:Int}(h:kN u v a p)(hp:-6<=p/\p<=66000)(hn:p+14<=n/\n<=p+150/\1<=n):aRK u n/\aRK v n/\Bx (eK.qJ u n,eK.pK v n) (R.sn a) (R.pz (-p-12)*R.ab (R.sn a)) (mg p):=by
 obtain⟨ap,u1,v1,v2,Vj,aAK,tu,tv⟩:=h.more hp.1;obtain⟨pu,pv,a0,a1,lu,lv,wd⟩:=h;have nu:=Pg pu Vj (p:=n) (by grind) (by omega) (by omega);have nv:=Pg pv aAK (p:=n) (by grind) (by omega) (by omega);refine⟨nu,nv,nu.pl,nv.ph,bMN nu.bl (by decide),bMN nv.bh (by decide),aLP p,?_,?_,?_⟩
 ·dsimp only;have h1:=nu.lo;have h2:=R.Vu (x:=R.ab (R.qz u)) (y:=a) (by rw[R.bS (R.aT _)];grind) (by rw[R.bS (by grind)];grind) lu;have h3:=aLQ p;have h4:R.pz (-p-1500)<=R.pz (bC u-n-270):=R.dO (by omega);grind
 ·dsimp only;have h2:=R.Vu (x:=a) (y:=R.ab (R.qz v)) (by rw[R.bS (by grind)];grind) (by rw[R.bS (R.aT _)];grind) lv;unfold mg;split
  ·have:=nv.hi;grind
  ·have:=nv.mh (by omega);have h4:R.pz (-p-1500)<=R.pz (bC v-n-270):=R.dO (by omega);grind
 ·dsimp only;have k1:=nu.wd;have k2:=nv.wd;have k3:=nu.hi;have k4:=nv.lo;have pz1:=R.dT (bC v-n-270);have aYG:=R.Vv (x:=R.ab (R.qz u)) (y:=R.ab (R.qz v)) (by rw[R.bS (R.aT _)];grind) (by rw[R.bS (R.aT _)];grind);rw[R.bS (show 0<=R.ab (R.qz v)-R.ab (R.qz u) by grind)]at aYG;have l2:=R.Pz (R.sn (R.ab (R.qz v))-R.sn (R.ab (R.qz u)));obtain⟨s1,s2⟩:=R.aCB (bQY ap) (show a<=4/5 by grind);rw[R.bS (show 0<=R.sn a by grind)];have aRO:=R.dO (show -n-1<=-p-15 by omega);have k1:=bQW k1 (bZI aRO (R.aT (R.qz u)));have k2:=bQW k2 (bZI aRO (R.aT (R.qz v)));have bBS:R.pz (-p-15)=256*R.pz (-p-23):=by
   have:=R.fZ (-p-15) (n:=8) (c:=256) (by norm_cast);rw[show -p-15-((8:Nat):Int)=-p-23 by omega]at this;grind
  have bBT:R.pz (-p-12)=2048*R.pz (-p-23):=by
   have:=R.fZ (-p-12) (n:=11) (c:=2048) (by norm_cast);rw[show -p-12-((11:Nat):Int)=-p-23 by omega]at this;grind
  have zp:=R.dT (-p-23);rw[bBS]at k1 k2;rw[bBT];generalize R.pz (-p-23)=z at *;have m1:=R.aH (bQY zp) (show 0<=5/4*a-R.ab (R.qz v) by grind);have m2:=R.aH (bQY zp) (show 0<=a-R.ab (R.qz u) by grind);have m3:=R.aH (bQY zp) (show 0<=R.sn a-4/5*a by grind);have m4:=R.aH (bQY zp) (bQY ap);grind
theorem aPF{n:Nat}(h:n<=1048576):R.uE<=R.pz (-(n:Int)):=by
 rw[R.yY];exact R.Cq h
theorem aPJ{u v:Int×Int}{a:Rat}{p n:Int}(h:kN u v a p)(hp:-6<=p/\p<=66000)(hn:p+14<=n/\n<=p+150/\1<=n):aXJ u n/\aXJ v n/\Bx (bD.qQ v n,bD.pU u n) (R.cs a) (R.pz (-p-12)*R.ab (R.cs a)) (mg p):=by
 obtain⟨ap,u1,v1,v2,Vj,aAK,tu,tv⟩:=h.more hp.1;obtain⟨pu,pv,a0,a1,lu,lv,wd⟩:=h;have nu:=Hs (x:=u) (p:=n) (by grind) (fun _=>by omega) (by omega);have nv:=Hs (x:=v) (p:=n) (by grind) (fun _=>by omega) (by omega);have he:2*R.uE<=R.pz (-p-1501):=by
  have:=aPF (n:=100000) (by omega);have h2:=R.dO (show -((100000:Nat):Int)+1<=-p-1501 by omega);rw[R.hI]at h2;grind
 have e1500:R.pz (-p-1500)=2*R.pz (-p-1501):=by rw[<-R.hI];congr 1;omega
 have pp:=R.dT (-p-1501);have m1:=R.Xs (x:=R.ab (R.qz u)) (y:=a) (R.aT _) lu (by grind);have m2:=R.Xs (x:=a) (y:=R.ab (R.qz v)) (bQY ap) lv (by grind);have mm:=aLQ p;obtain⟨c1,c2⟩:=R.Xt (r:=a) (by rw[R.bS (bQY ap)];grind);refine⟨nu,nv,nv.pl,nu.ph,bMN nv.bl (by decide),bMN nu.bh (by decide),aLP p,?_,?_,?_⟩
 ·dsimp only;have:=nv.ml aAK;have h4:R.pz (-p-1499)<=R.pz (bC v-n-270):=R.dO (by omega);have aVE:R.pz (-p-1499)=2*R.pz (-p-1500):=by rw[<-R.hI];congr 1;omega
  grind
 ·dsimp only
  by_cases c:2*bC u+8 < -n
  ·have e:bD.pU u n=(1,0):=by
    have et:aQ.gM u=bC u:=by unfold aQ.gM bC;rw[if_neg Vj]
    unfold bD.pU;rw[et,if_neg Vj,if_pos c]
   unfold mg;rw[aU,e,nZ];grind
  ·have:=nu.mh Vj c;have h4:R.pz (-p-1499)<=R.pz (bC u-n-270):=R.dO (by omega);have aVE:R.pz (-p-1499)=2*R.pz (-p-1500):=by rw[<-R.hI];congr 1;omega
   grind
 ·dsimp only;have k1:=nu.wd;have k2:=nv.wd;have k3:=nu.lo;have k4:=nv.hi;have aYG:=R.aFM (x:=R.ab (R.qz u)) (y:=R.ab (R.qz v)) (by rw[R.bS (R.aT _)];grind) (by rw[R.bS (R.aT _)];grind);rw[R.bS (show 0<=R.ab (R.qz v)-R.ab (R.qz u) by grind)]at aYG;have l2:=R.tH (R.cs (R.ab (R.qz v))-R.cs (R.ab (R.qz u)));rw[R.bS (show 0<=R.cs a by grind)];have aRO:=R.dO (show -n-1<=-p-15 by omega);have k1:=bQW k1 aRO;have k2:=bQW k2 aRO;have bBS:R.pz (-p-15)=256*R.pz (-p-23):=by
   have:=R.fZ (-p-15) (n:=8) (c:=256) (by norm_cast);rw[show -p-15-((8:Nat):Int)=-p-23 by omega]at this;grind
  have bBT:R.pz (-p-12)=2048*R.pz (-p-23):=by
   have:=R.fZ (-p-12) (n:=11) (c:=2048) (by norm_cast);rw[show -p-12-((11:Nat):Int)=-p-23 by omega]at this;grind
  have zp:=R.dT (-p-23);have h5:R.pz (-p-1501)<=R.pz (-p-23):=R.dO (by omega);rw[bBS]at k1 k2;rw[bBT];generalize R.pz (-p-23)=z at *;have m3:=R.aH (bQY zp) (show 0<=R.cs a-17/25 by grind);have m4:=R.aH (bQY zp) (show 0<=1-a by grind);grind
def rS(x:Int×Int)(w q:Int):(Int×Int)×(Int×Int):=(eK.Ma (qW.bFH x w) q,eK.Mb (qW.bFI x w) q)
def bCW(x:Int×Int)(w:Int):rY:=mD (qW.bFH x w) (qW.bFI x w)
def rC(x:Int×Int)(w q:Int):(Int×Int)×(Int×Int):=(bD.qQ (dv (cS.zG (bCW x w))) q,bD.pU (dv (cS.sJ (bCW x w))) q)
theorem Vp{x:Int×Int}(h:x.1≠0):aQ.gM x=bC x:=by unfold aQ.gM bC;rw[if_neg h]
theorem aLD{x:dR}{p:Int}(hx:aL x)(hp:1<=p/\p<=67100)(ht:-1200<=bC (dv x))(n:aRK (dv x) p):eK.aIJ x p:=by
 refine⟨hx,hp,fun h0=>?_⟩;rw[Vp h0];refine⟨by omega,n.pl,n.ph,kY.2 ?_,n.aXW,n.okB⟩;have h1:=n.lo;have h2:=n.hi;have h3:=R.dT (bC (dv x)-p-270);grind
theorem aMO{x:dR}{p:Int}(hx:aL x)(hp:1<=p/\p<=67100)(ht:(dv x).1≠0->-1200<=bC (dv x))(n:aXJ (dv x) p):bD.Zy x p:=by
 refine⟨hx,hp,fun h0=>?_⟩;have:=ht h0;rw[Vp h0];exact⟨by omega,n.aXW h0,n.okB h0⟩
theorem Nl(a b:Int×Int):dv (cS.Sk (gN (mD a b)))=((a.1.natAbs:Int),a.2):=by
 show((M6.val (M6.dg a.1.natAbs):Int),a.2)=_;rw[M6.bN]
theorem Nm(a b:Int×Int):dv (cS.Sk (gO (mD a b)))=((b.1.natAbs:Int),b.2):=by
 show((M6.val (M6.dg b.1.natAbs):Int),b.2)=_;rw[M6.bN]
theorem Nz{x:dR}(hx:aL x):aL (cS.Sk x):=⟨⟨hx.1.1,fun hf=>(by cases hf),hx.1.len⟩,hx.2⟩
theorem pY(p:Int×Int):R.ab (R.qz ((p.1.natAbs:Int),p.2))=R.ab (R.qz p):=by rw[Gj,R.bS (R.aT _)]
theorem Qs{a b:Int×Int}(hs:gL.wG a b≠0)(ha:iL a)(hb:iL b) :
  (aL (cS.zG (mD a b))/\aL (cS.sJ (mD a b))) /\
  ((R.ab (R.qz b)<R.ab (R.qz a)/\dv (cS.zG (mD a b))=((a.1.natAbs:Int),a.2)/\dv (cS.sJ (mD a b))=((b.1.natAbs:Int),b.2)) \/
  (R.ab (R.qz a)<=R.ab (R.qz b)/\dv (cS.zG (mD a b))=((b.1.natAbs:Int),b.2)/\dv (cS.sJ (mD a b))=((a.1.natAbs:Int),a.2))):=by
 have oa:aL (gN (mD a b)):=cF ha;have ob:aL (gO (mD a b)):=cF hb;unfold cS.zG cS.sJ;rw[qB,qC,show(gL.wG a b==0)=false from beq_eq_false_iff_ne.2 hs,cond_false,Nl,Nm];have hc:=sL (p:=((a.1.natAbs:Int),a.2)) (q:=((b.1.natAbs:Int),b.2));rw[Gj,Gj]at hc
 by_cases h:R.ab (R.qz b)<R.ab (R.qz a)
 ·rw[decide_eq_true (hc.2 h),cond_true,cond_true,Nl,Nm];exact⟨⟨Nz oa,Nz ob⟩,Or.inl ⟨h,rfl,rfl⟩⟩
 ·rw[decide_eq_false (fun hh=>h (hc.1 hh)),cond_false,cond_false,Nl,Nm];exact⟨⟨Nz ob,Nz oa⟩,Or.inr ⟨Rat.not_lt.1 h,rfl,rfl⟩⟩
theorem aIF{a:Int×Int}{x:dR}(hx:aL x)(e:dv x=a)(h1:R.ab (R.qz a)<=1)(ht:a.1≠0->-1200<=bC a):oL.Ke x:=by
 refine⟨hx,fun h0=>?_⟩;rw[e]at h0 ⊢;have:=ht h0;refine⟨kY.2 (by rw[Gj,nZ];exact h1),?_⟩;unfold bC at this;omega
theorem aDH{s:(Int×Int)×(Int×Int)}{V W m:Rat}(h:Bx s V W m)(h1:-1<=R.qz s.1)(h2:R.qz s.2<=1):R.ab (R.qz s.1)<=1/\R.ab (R.qz s.2)<=1:=by
 have:=h.lo;have:=h.hi;have:=h.m0;constructor <;> (rw[R.dY];constructor <;> grind)
def gS(l h:Int×Int)(q:Int):(Int×Int)×(Int×Int):=(eK.Ma l q,eK.Mb h q)
def gC(l h:Int×Int)(q:Int):(Int×Int)×(Int×Int):=(bD.qQ (dv (cS.zG (mD l h))) q,bD.pU (dv (cS.sJ (mD l h))) q)
structure bCC(l h:Int×Int)(p n:Int)(r:Rat):Prop where
 so:rU.aBZ (mD l h) (n-2)
 co:cS.aKK (mD l h) (n-2)
 s:Bx (gS l h n) (R.sn r) (R.pz (-p-12)*R.ab (R.sn r)) (mg p)
 c:Bx (gC l h n) (R.cs r) (R.pz (-p-12)*R.ab (R.cs r)) (mg p)
 s1:R.ab (R.qz (gS l h n).1)<=1/\R.ab (R.qz (gS l h n).2)<=1
 c1:R.ab (R.qz (gC l h n).1)<=1/\R.ab (R.qz (gC l h n).2)<=1
theorem aMV{l h:Int×Int}{p n:Int}{r:Rat}(hp:-6<=p/\p<=66000)(hn:p+14<=n/\n<=p+150/\3<=n)(pl:iL l)(ph:iL h)(lo:R.qz l<=r)(hi:r<=R.qz h)(wd:R.qz h-R.qz l<=R.pz (-p-23)*R.ab r)(rg:R.pz (-1074)<=R.ab r)(nl:R.ab r<=79/100):bCC l h p n r:=by
 have Xb:p+14<=n/\n<=p+150/\1<=n:=by omega
 have bFX:=aNL hp.1;have rp:0<R.ab r:=by have:=R.dT (-1074);grind
 have m:=R.aH (bQY rp) (show 0<=1/131072-R.pz (-p-23) by grind);have tok:∀q:Int,q=n-2->(1<=q/\q<=67000):=fun q hq=>by omega
 have oa:aL (gN (mD l h)):=cF pl;have ob:aL (gO (mD l h)):=cF ph;have ea:dv (gN (mD l h))=l:=qB _ _;have eb:dv (gO (mD l h))=h:=qC _ _;have sk:eG (mD l h):=uG pl ph (kY.2 (by grind));have aRH:n-2+2=n:=by omega
 have fin:∀(a:Rat),a=R.ab r->R.ab (R.qz l)<=4/5->R.ab (R.qz h)<=4/5 ->
   (l.1≠0/\-1075<=bC l)->(h.1≠0/\-1075<=bC h) ->
   aRK l n->aRK h n ->
   kN (dv (cS.sJ (mD l h))) (dv (cS.zG (mD l h))) a p->aL (cS.zG (mD l h))->aL (cS.sJ (mD l h)) ->
   Bx (gS l h n) (R.sn r) (R.pz (-p-12)*R.ab (R.sn r)) (mg p)->-1<=R.qz (gS l h n).1->R.qz (gS l h n).2<=1->bCC l h p n r:=by
  intro a ha l1 l2 t1 t2 n1 n2 par of on bs b1 b2;obtain⟨cu,cv,cb⟩:=aPJ par hp Xb;obtain⟨_,_,_,_,_,_,tu,tv⟩:=par.more hp.1;have ec:R.cs a=R.cs r:=by rw[ha];exact R.aFN r
  rw[ec]at cb;refine⟨⟨⟨tok _ rfl,sk,aIF oa ea (by grind) (fun _=>by omega),aIF ob eb (by grind) (fun _=>by omega)⟩,?_,?_⟩,⟨⟨tok _ rfl,sk,aIF oa ea (by grind) (fun _=>by omega),aIF ob eb (by grind) (fun _=>by omega)⟩,?_,?_⟩,bs,cb,aDH bs b1 b2,aDH cb ?_ cu.one⟩
  ·rw[aRH];exact aLD oa (by omega) (by rw[ea];omega) (by rw[ea];exact n1)
  ·rw[aRH];exact aLD ob (by omega) (by rw[eb];omega) (by rw[eb];exact n2)
  ·rw[aRH];exact aMO of (by omega) (fun _=>by omega) cv
  ·rw[aRH];exact aMO on (by omega) (fun _=>by omega) cu
  ·have h1:=cb.wd;have h2:=cb.hi;have h3:=cb.m0;obtain⟨c1,c2⟩:=R.Xt (r:=r) (by grind);rw[R.bS (show 0<=R.cs r by grind)]at h1;have z12:R.pz (-p-12)<=1:=by rw[<-R.fB];exact R.dO (by omega)
   have:=R.aH (show 0<=R.cs r by grind) (show 0<=1-R.pz (-p-12) by grind);show -1<=R.qz (bD.qQ (dv (cS.zG (mD l h))) n);dsimp only at h1 h2;grind
 have t75:R.pz (-1075)*2=R.pz (-1074):=by have:=R.nD (-1074);rw[show(-1074:Int)-1=-1075 by rfl]at this;exact this
 by_cases c:0<r
 ·have er:R.ab r=r:=R.bS (bQY c);rw[er]at nl wd rg rp m;have al:R.ab (R.qz l)=R.qz l:=R.bS (by grind);have ah:R.ab (R.qz h)=R.qz h:=R.bS (by grind);have par:kN l h r p:=⟨pl,ph,rg,nl,by rw[al];exact lo,by rw[ah];exact hi,by rw[al,ah];exact wd⟩;obtain⟨_,_,_,v2,Vj,aAK,tu,tv⟩:=par.more hp.1;obtain⟨nu,nv,bs⟩:=aCD par hp Xb;have sg:gL.wG l h≠0:=by rw[aCJ (by grind) (by grind)];decide
  obtain⟨⟨of,on⟩,hd⟩:=Qs sg pl ph;have n1:isNeg l.1=false:=jH.2 (by have:=yX.1 (show 0<R.qz l by grind);omega);have n2:isNeg h.1=false:=jH.2 (by have:=yX.1 (show 0<R.qz h by grind);omega);have eS:gS l h n=(eK.qJ l n,eK.pK h n):=by
   unfold gS eK.Ma eK.Mb;rw[if_neg Vj,if_neg aAK,n1,n2];rfl
  refine fin r er.symm (by grind) (by grind) ⟨Vj,tu⟩ ⟨aAK,tv⟩ nu nv ?_ of on (by rw[eS];exact bs) ?_ ?_
  ·rcases hd with ⟨d1,d2,d3⟩ |⟨d1,d2,d3⟩
   ·grind
   ·show kN (dv (cS.sJ (mD _ _))) (dv (cS.zG (mD _ _))) r p;rw[d2,d3];exact⟨uJ pl,uJ ph,rg,nl,by rw[pY,al];exact lo,by rw[pY,ah];exact hi,by rw[pY,pY,al,ah];exact wd⟩
  ·rw[eS];have:=nu.pos;dsimp only;grind
  ·rw[eS];exact nv.one
 ·have er:R.ab r=-r:=by
   unfold R.ab
   by_cases hr:0<=r
   ·have:r=0:=by grind
    rw[this,R.bS bSF]at rp;grind
   ·rw[if_neg hr]
  rw[er]at nl wd rg rp m;have al:R.ab (R.qz l)=-R.qz l:=by rw[<-R.gT];exact R.bS (by grind)
  have ah:R.ab (R.qz h)=-R.qz h:=by rw[<-R.gT];exact R.bS (by grind)
  have par:kN h l (-r) p:=⟨ph,pl,rg,nl,by rw[ah];grind,by rw[al];grind,by rw[al,ah];grind⟩;obtain⟨_,_,_,v2,Vj,aAK,tu,tv⟩:=par.more hp.1;obtain⟨nu,nv,bs⟩:=aCD par hp Xb;have sg:gL.wG l h≠0:=by rw[aCK (by grind)];decide
  obtain⟨⟨of,on⟩,hd⟩:=Qs sg pl ph;have n1:isNeg l.1=true:=lR.2 (Gi.1 (by grind));have n2:isNeg h.1=true:=lR.2 (Gi.1 (by grind));have eS:gS l h n=(iT.uM (eK.pK l n),iT.uM (eK.qJ h n)):=by
   unfold gS eK.Ma eK.Mb;rw[if_neg Vj,if_neg aAK,n1,n2];rfl
  have bn:=bs.neg;have es:-R.sn (-r)=R.sn r:=by rw[R.yV];grind
  have bLB:R.ab (R.sn (-r))=R.ab (R.sn r):=by rw[R.yV,R.gT]
  rw[es,bLB]at bn;refine fin (-r) er.symm (by grind) (by grind) ⟨aAK,tv⟩ ⟨Vj,tu⟩ nv nu ?_ of on (by rw[eS];exact bn) ?_ ?_
  ·show kN (dv (cS.sJ (mD _ _))) (dv (cS.zG (mD _ _))) (-r) p;rcases hd with ⟨d1,d2,d3⟩ |⟨d1,d2,d3⟩
   ·rw[d2,d3];exact⟨uJ ph,uJ pl,rg,nl,by rw[pY,ah];grind,by rw[pY,al];grind,by rw[pY,pY,al,ah];grind⟩
   ·rw[d2,d3];exact⟨uJ pl,uJ ph,rg,nl,by rw[pY,al];grind,by rw[pY,ah];grind,by rw[pY,pY,al,ah];grind⟩
  ·rw[eS];show -1<=R.qz (-(eK.pK l n).1,(eK.pK l n).2);rw[mQ];have:=nv.one;grind
  ·rw[eS];show R.qz (-(eK.qJ h n).1,(eK.qJ h n).2)<=1;rw[mQ];have:=nu.pos;grind
end M
namespace M
open Go AI W
theorem aCH{up:Bool}{p:Int×Int}{n:Int}(hn:1<=n)(h:R.ab (R.qz p)<=1):R.ab (R.qz (shD up p n))<=1:=by
 unfold shD bV.mA;rw[mF];split
 ·exact h
 ·rename_i hk;dsimp only;have h0:p.1≠0:=by
   intro hz;rw[hz]at hk;exact hk (by show(bl 0:Int)-n<=0;rw[Fk];omega)
  have ht:=zU h0 (by rw[R.fB];exact h);unfold bC at ht;obtain⟨k,Sh⟩:=bQT (show 0<=(bl p.1.natAbs:Int)-n by omega);rw[Sh,bPN];obtain⟨j,hj⟩:=bQT (show 0<=-(p.2+(k:Int)) by omega);have hz:p.1.natAbs<=2^j*2^k:=by
   rw[yQ]at h;rw[<-bQS];have e1:R.pz p.2*((2^(j+k):Nat):Rat)=1:=by rw[<-R.dU,show p.2+((j+k:Nat):Int)=0 by omega,R.fB]
   have P:(0:Rat)<=((2^(j+k):Nat):Rat):=by exact_mod_cast bRU _
   have m:=R.aH P (show 0<=1-(p.1.natAbs:Rat)*R.pz p.2 by grind);have:(p.1.natAbs:Rat)<=((2^(j+k):Nat):Rat):=by
    have e2:((2^(j+k):Nat):Rat)*((p.1.natAbs:Rat)*R.pz p.2)=(p.1.natAbs:Rat):=by
     rw[bYJ,bXA,e1];grind
    grind
   exact_mod_cast this
  have hp:(0:Int)<((2^k:Nat):Int):=by have:=bOQ (n:=k) (show 0<2 by decide);omega
  have bDG:(p.1.natAbs:Int)<=((2^j:Nat):Int)*((2^k:Nat):Int):=by exact_mod_cast hz
  have hc:-((2^j:Nat):Int)<=iQ.nJ up p.1 k/\iQ.nJ up p.1 k<=((2^j:Nat):Int):=by
   have fl:∀w:Int,(w.natAbs:Int)<=((2^j:Nat):Int)*((2^k:Nat):Int)->-((2^j:Nat):Int)<=w/((2^k:Nat):Int)/\w/((2^k:Nat):Int)<=((2^j:Nat):Int):=by
    intro w hw;constructor
    ·refine Int.le_ediv_of_mul_le hp ?_;rw[Int.neg_mul];omega
    ·exact Int.ediv_le_of_le_mul hp (by omega)
   unfold iQ.nJ;cases up with
   |false=>rw[cond_false];exact fl _ bDG
   |true =>
    rw[cond_true];have:=fl (-p.1) (by rw[bSL];exact bDG);omega
  generalize iQ.nJ up p.1 k=c at *;have e1:R.pz (p.2+(k:Int))*((2^j:Nat):Rat)=1:=by rw[<-R.dU,show p.2+(k:Int)+(j:Int)=0 by omega,R.fB]
  have pp:=R.dT (p.2+(k:Int));have c1:-((2^j:Nat):Rat)<=(c:Rat):=by
   have:((-((2^j:Nat):Int):Int):Rat)<=(c:Rat):=by exact_mod_cast hc.1
   rwa [bWR,bWJ]at this
  have c2:(c:Rat)<=((2^j:Nat):Rat):=by
   have:(c:Rat)<=(((2^j:Nat):Int):Rat):=by exact_mod_cast hc.2
   rwa [bWJ]at this
  have m1:=R.aH (bQY pp) (show 0<=(c:Rat)+((2^j:Nat):Rat) by grind);have m2:=R.aH (bQY pp) (show 0<=((2^j:Nat):Rat)-(c:Rat) by grind);rw[R.dY];constructor <;> grind
def On(s:(Int×Int)×(Int×Int)):Prop:=R.ab (R.qz s.1)<=1/\R.ab (R.qz s.2)<=1
theorem On.neg{s:(Int×Int)×(Int×Int)}(h:On s):On (iT.uM s.2,iT.uM s.1):=by
 constructor
 ·show R.ab (R.qz (-s.2.1,s.2.2))<=1;rw[mQ,R.gT];exact h.2
 ·show R.ab (R.qz (-s.1.1,s.1.2))<=1;rw[mQ,R.gT];exact h.1
theorem On.trn{s c:(Int×Int)×(Int×Int)}(hs:On s)(hc:On c):∀n:Nat,On (VTurned.trn s c n).1/\On (VTurned.trn s c n).2:=by
 intro n
 induction n generalizing s c with
 |zero=>exact⟨hs,hc⟩
 |succ n ih=>exact ih hc hs.neg
theorem aFX{s:(Int×Int)×(Int×Int)}{V ρ m:Rat}(h:Bx s V (ρ*R.ab V) m)(r1:ρ<=1/64)(V0:V≠0) :
  63/64*R.ab V<=R.ab (R.qz s.1)/\R.ab (R.qz s.1)<=65/64*R.ab V/\63/64*R.ab V<=R.ab (R.qz s.2)/\R.ab (R.qz s.2)<=65/64*R.ab V/\(0<V->0<R.qz s.1)/\(V<0->R.qz s.2<0)/\0<R.ab V:=by
 obtain⟨_,_,_,_,m0,lo,hi,wd⟩:=h;have a0:0<R.ab V:=by
  unfold R.ab;split <;> grind
 have k:=R.aH (bQY a0) (show 0<=1/64-ρ by grind);generalize hρ:ρ*R.ab V=W at *
 by_cases c:0<V
 ·have e:R.ab V=V:=R.bS (bQY c);rw[e]at a0 k hρ;rw[e];rw[R.bS (show 0<=R.qz s.1 by grind),R.bS (show 0<=R.qz s.2 by grind)];refine⟨by grind,by grind,by grind,by grind,fun _=>by grind,fun _=>by grind,c⟩
 ·have e:R.ab V=-V:=by unfold R.ab;rw[if_neg (by grind)]
  rw[e]at a0 k hρ;rw[e];rw[<-R.gT,R.bS (show 0<=-R.qz s.1 by grind),<-R.gT,R.bS (show 0<=-R.qz s.2 by grind)];refine⟨by grind,by grind,by grind,by grind,fun _=>by grind,fun _=>by grind,by grind⟩
theorem Ht{s:(Int×Int)×(Int×Int)}{V W W' m:Rat}(h:Bx s V W m)(hw:W<=W'):Bx s V W' m:=by
 obtain⟨a,b,c,d,e,f,g,i⟩:=h;exact⟨a,b,c,d,e,f,g,bQW i hw⟩
theorem Dm{p:Int×Int}(h:0<R.ab (R.qz p)):p.1≠0:=Kp fun hz=>by rw[hz,R.bS bSF]at h;exact Rat.lt_irrefl h
theorem aLG(k:Int)(s c:Rat):R.ab (R.rs k s c)=if k%2=0 then R.ab s else R.ab c:=by
 have h4:k%4=0\/k%4=1\/k%4=2\/k%4=3:=by omega
 unfold R.rs;rcases h4 with h |h |h |h
 ·have h2:k%2=0:=by omega
  simp[h,h2,R.gT]
 ·have h2:k%2=1:=by omega
  simp[h,h2,R.gT]
 ·have h2:k%2=0:=by omega
  simp[h,h2,R.gT]
 ·have h2:k%2=1:=by omega
  simp[h,h2,R.gT]
theorem aLH(k:Int)(s c:Rat):R.ab (R.rc k s c)=if k%2=0 then R.ab c else R.ab s:=by
 have h4:k%4=0\/k%4=1\/k%4=2\/k%4=3:=by omega
 unfold R.rc;rcases h4 with h |h |h |h
 ·have h2:k%2=0:=by omega
  simp[h,h2,R.gT]
 ·have h2:k%2=1:=by omega
  simp[h,h2,R.gT]
 ·have h2:k%2=0:=by omega
  simp[h,h2,R.gT]
 ·have h2:k%2=1:=by omega
  simp[h,h2,R.gT]
end M
namespace W
open Go AI M
namespace lO
def E:=mE [(94,cV.aG),(81,kT.aG)] 23 [] [] []
def aE:=bd f79
theorem aW:Nk E aE:=nk
theorem start a c d e b:aF E f79 aE [D.agg [sc (int i64 a),sc (int i64 c),sc (int i64 d),sc (int u64 e)],D.s (sc (int u64 b))]=letI B:=(a,c,d,e);letI A:=aN.tY B;aB (b==0) (some [D.s (sc (int i64 0))]) (aP A (aB (decide (b<cV.lS B)) (some [D.s (sc (int i64 1))]) (aP A (aB (decide (b<kT.mK B)) (some [D.s (sc (int i64 2))]) (aP A (aB (b==kT.mK B) (some [D.s (sc (int i64 3))]) (some [D.s (sc (int i64 4))]))))))):=eJ aW
def lH(s:Int×Int×Int×Int)(n:Int):Int:=if n=0 then 0 else if n<cV.lS s then 1 else if n<kT.mK s then 2 else if n=kT.mK s then 3 else 4
def sp(s:Int×Int×Int×Int)(n:Int):Prop×List D:=(aN.tY s,[.s (.sc (.int .i64 (lH s n)))])
theorem spec:fK E f79 aE (pG (.pair (sN .i64) (.pair (sN .i64) (.pair (sN .i64) (sN .u64))))) (pN .u64) sp:=by
 intro s n h;obtain⟨s1,s2,s3,s4⟩:=s;have h:aN.tY (s1,s2,s3,s4):=h;refine(start s1 s2 s3 s4 n).trans ?_;show _=some [D.s (.sc (.int .i64 (lH (s1,s2,s3,s4) n)))];unfold lH
 by_cases h1:n=0
 ·rw[cC h1,if_pos h1]
 ·rw[bP h1,if_neg h1,gP h]
  by_cases h2:n<cV.lS (s1,s2,s3,s4)
  ·rw[aO h2,if_pos h2]
  ·rw[aI h2,if_neg h2,gP h]
   by_cases h3:n<kT.mK (s1,s2,s3,s4)
   ·rw[aO h3,if_pos h3]
   ·rw[aI h3,if_neg h3,gP h]
    by_cases h4:n=kT.mK (s1,s2,s3,s4)
    ·rw[cC h4,if_pos h4]
    ·rw[bP h4,if_neg h4]
def aG:cX:=orc2 (pG (.pair (sN .i64) (.pair (sN .i64) (.pair (sN .i64) (sN .u64))))) (pN .u64) sp
theorem ok:OK 79 aG:=(eB E aE (aA cV.ok (aA kT.ok aD)) func79).lE rfl spec
end lO
namespace Iw
def E:=mE [(77,dZ.aG),(79,lO.aG)] 24 [13,23] [] []
def aE:=bd f83
theorem aW:Nk E aE:=nk
theorem start a b:aF E f83 aE [D.s (sc (int i64 a)),D.s (sc (int u64 b))]=letI C:=bif dZ.gA a b then(0:Int)else(2:Int);letI A:=aN.gW a;letI B:=(A.fst,A.snd.fst,A.snd.snd.fst,A.snd.snd.snd);aP ((a=32\/a=64)/\0<=b/\b<18446744073709551616) (aB (C !=0) (some [D.s (sc (int i64 0)),D.s (sc (int i64 C))]) (aP (aN.tY B) (some [D.s (sc (int i64 (lO.lH B (bif dZ.gA a b then b%dJ.dV A else(0:Int))))),D.s (sc (int i64 0))]))):=eJ aW
def sp(f b:Int):Prop×List D:=((f=32\/f=64)/\0<=b/\b<18446744073709551616,[.s (.sc (.int .i64 (bif dZ.gA f b then lO.lH (aN.gW f) (b%dJ.dV (aN.gW f))else 0))),.s (.sc (.int .i64 (bif dZ.gA f b then 0 else 2)))])
theorem spec:fK E f83 aE (pN .i64) (pN .u64) sp:=by
 intro f b h;refine(start f b).trans ((gP h).trans ?_);unfold sp
 try dsimp only
 have ht:aN.tY (aN.gW f):=by
  rcases h.1 with rfl |rfl
  ·exact .inl rfl
  ·exact .inr rfl
 cases hp:dZ.gA f b with
 |false=>rfl
 |true =>
  try dsimp only[cond_true]
  rw[eN rfl,gP ht]
def aG:cX:=orc2 (pN .i64) (pN .u64) sp
theorem ok:OK 83 aG:=(eB E aE (aA dZ.ok (aA lO.ok aD)) func83).lE rfl spec
end Iw
namespace xC
def aPM(b:Int):Int:=bif dZ.gA 64 b then lO.lH (aN.gW 64) (b%9223372036854775808)else 0
end xC
namespace xF
def E:=mE [(162,Iv.aG),(163,aQN.aG),(164,Rw.aG)] 31 [28] [] []
def aE:=bd f118
theorem aW:Nk E aE:=nk
theorem start a b d e f g c:aF E f118 aE [D.agg [sc (bool a),ints u64 b,sc (int i64 d)],D.agg [sc (bool e),ints u64 f,sc (int i64 g)],D.s (sc (int i64 c))]=letI B:=bV.mA true (dv (e,f,g)).fst (dv (e,f,g)).snd c;letI F:=bif fR B.fst B.snd then aK B.fst B.snd else((0:Int),(0:Int));letI A:=bV.mA false (dv (a,b,d)).fst (dv (a,b,d)).snd c;letI C:=bif fR A.fst A.snd then aK A.fst A.snd else((0:Int),(0:Int));aP (aL (a,b,d)/\1<=c/\c<=70000) (aC (isNeg C.fst) fun h=>aC (M6.dg C.fst.natAbs) fun i=>aC C.snd fun j=>aC (bif fR A.fst A.snd then(0:Int)else(5:Int)) fun k=>aP (aL (e,f,g)/\1<=c/\c<=70000) (aC (isNeg F.fst) fun l=>aC (M6.dg F.fst.natAbs) fun m=>aC F.snd fun n=>aC (bif fR B.fst B.snd then(0:Int)else(5:Int)) fun o=>aP (k=0/\o=0) (some [D.agg [sc (bool h),ints u64 i,sc (int i64 j),sc (bool l),ints u64 m,sc (int i64 n)],D.s (sc (int i64 0))]))):=eJ aW
def sp(x y:dR)(p:Int):Prop×List D:=(aL x/\aL y/\(1<=p/\p<=70000)/\vW false (dv x) p=true/\vW true (dv y) p=true,[yE (shD false (dv x) p) (shD true (dv y) p),.s (.sc (.int .i64 0))])
theorem spec:qR E f118 aE gZ gZ (pN .i64) sp:=by
 rintro x y p ⟨h1,h2,hp,i1,i2⟩;have aYL:fR (bV.mA false (dv (x.1,x.2.1,x.2.2)).1 (dv (x.1,x.2.1,x.2.2)).2 p).1 (bV.mA false (dv (x.1,x.2.1,x.2.2)).1 (dv (x.1,x.2.1,x.2.2)).2 p).2=true:=i1;have aYK:fR (bV.mA true (dv (y.1,y.2.1,y.2.2)).1 (dv (y.1,y.2.1,y.2.2)).2 p).1 (bV.mA true (dv (y.1,y.2.1,y.2.2)).1 (dv (y.1,y.2.1,y.2.2)).2 p).2=true:=i2;refine(start x.1 x.2.1 x.2.2 y.1 y.2.1 y.2.2 p).trans ?_;simp only[aM];rw[gP ⟨h1,hp⟩,gP ⟨h2,hp⟩,aYL,aYK,gP ⟨rfl,rfl⟩];rfl
def aG:cX:=orc3 gZ gZ (pN .i64) sp
theorem ok:OK 118 aG:=(eB E aE (aA Iv.ok (aA aQN.ok (aA Rw.ok aD))) func118).zA rfl spec
end xF
namespace aPU
def E:=mE [(117,Ih.aG),(118,xF.aG)] 23 [10,20] [] []
def aE:=bd f65
theorem aW:Nk E aE:=nk
theorem start a c d e f g b:aF E f65 aE [D.agg [sc (bool a),ints u64 c,sc (int i64 d),sc (bool e),ints u64 f,sc (int i64 g)],D.s (sc (int i64 b))]=letI C:=int i64 0;letI B:=M.shD true (dv (e,f,g)) b;letI A:=M.shD false (dv (a,c,d)) b;aP (eG (a,c,d,e,f,g)) (aC (if 1<=b/\b<=70000 then(0:Int)else(1:Int)) fun h=>aB (h !=0) (some [D.agg [sc (bool false),sc (slice none 0 0),sc C,sc (bool false),sc (slice none 0 0),sc C],D.s (sc (int i64 h))]) (aP (aL (a,c,d)/\aL (e,f,g)/\(1<=b/\b<=70000)/\vW false (dv (a,c,d)) b=true/\vW true (dv (e,f,g)) b=true) (aC (isNeg A.fst) fun i=>aC (M6.dg A.fst.natAbs) fun j=>aC A.snd fun k=>aC (isNeg B.fst) fun l=>aC (M6.dg B.fst.natAbs) fun m=>aC B.snd fun n=>some [D.agg [sc (bool i),ints u64 j,sc (int i64 k),sc (bool l),ints u64 m,sc (int i64 n)],D.s (sc C)]))):=eJ aW
def sp(s:rY)(p:Int):Prop×List D:=(eG s/\(1<=p/\p<=70000)/\vW false (dv (gN s)) p=true/\vW true (dv (gO s)) p=true,[yE (shD false (dv (gN s)) p) (shD true (dv (gO s)) p),.s (.sc (.int .i64 0))])
theorem spec:fK E f65 aE sZ (pN .i64) sp:=by
 rintro s p ⟨h1,hp,i1,i2⟩;refine(start s.1 s.2.1 s.2.2.1 s.2.2.2.1 s.2.2.2.2.1 s.2.2.2.2.2 p).trans ?_;rw[gP h1,aM,if_pos hp,eN rfl];exact gP ⟨h1.1,h1.2.1,hp,i1,i2⟩
def aG:cX:=orc2 sZ (pN .i64) sp
theorem ok:OK 65 aG:=(eB E aE (aA Ih.ok (aA xF.ok aD)) func65).lE rfl spec
end aPU
namespace Rr
theorem aPG{b:Int}(hb:0<=b/\b<18446744073709551616)(c0:xC.aPM b≠0)(c3:xC.aPM b≠3)(c4:xC.aPM b≠4):dZ.gA 64 b=true/\aZ.fA 64 b=true/\aQM (bM.lA 64 b) (bM.lB 64 b):=by
 have hp:dZ.gA 64 b=true:=rfl;unfold xC.aPM at c0 c3 c4;rw[hp,cond_true]at c0 c3 c4;have e1:cV.lS (aN.gW 64)=4503599627370496:=rfl;have e2:kT.mK (aN.gW 64)=9218868437227405312:=rfl;have e3:dJ.dV (aN.gW 64)=9223372036854775808:=rfl;have e4:(aN.gW 64).2.2.1=-1074:=rfl;unfold lO.lH at c0 c3 c4;rw[e1,e2]at c0 c3 c4;have n0:b%9223372036854775808≠0:=fun h=>by rw[h,if_pos rfl]at c0;exact c0 rfl
 have n1:b%9223372036854775808<9218868437227405312:=by
  rw[if_neg n0]at c3 c4
  by_cases h1:b%9223372036854775808<4503599627370496
  ·omega
  ·rw[if_neg h1]at c3 c4
   by_cases h2:b%9223372036854775808<9218868437227405312
   ·exact h2
   ·rw[if_neg h2]at c3 c4
    by_cases h3:b%9223372036854775808=9218868437227405312
    ·rw[if_pos h3]at c3;exact absurd rfl c3
    ·rw[if_neg h3]at c4;exact absurd rfl c4
 refine⟨hp,?_,?_⟩
 ·unfold aZ.fA;rw[e2,e3];exact decide_eq_true n1
 ·have hz:(bM.lA 64 b).natAbs=(iF.Ch (aN.gW 64) (b%9223372036854775808)).toNat:=by
   unfold bM.lA;rw[jR,e3]
  have hm:0<iF.Ch (aN.gW 64) (b%9223372036854775808)/\iF.Ch (aN.gW 64) (b%9223372036854775808)<9007199254740992:=by
   unfold iF.Ch;rw[e1];split <;> omega
  have he:-1074<=bM.lB 64 b/\bM.lB 64 b<=971:=by
   unfold bM.lB iF.Ei;rw[e1,e3,e4];split <;> omega
  exact⟨by omega,by omega,he.1,he.2⟩
end Rr
end W
namespace M
open Go AI W
def Real(b:Int):Prop:=(0<=b/\b<18446744073709551616)/\xC.aPM b≠0/\xC.aPM b≠3/\xC.aPM b≠4
theorem Real.n{b:Int}(h:Real b):aQM (bM.lA 64 b) (bM.lB 64 b):=(Rr.aPG h.1 h.2.1 h.2.2.1 h.2.2.2).2.2
theorem Real.x{b:Int}(h:Real b):aWB (qW.aRI b):=bBV h.n
theorem Real.q{b:Int}(_h:Real b):R.qz (qW.aRI b)=R.qz (bM.lA 64 b,bM.lB 64 b):=mF _ _
end M
namespace M
open Go AI W
open Classical in
def kx (b:Int):Int:=if h:∃k,R.aGM (R.qz (qW.aRI b)) k then Classical.choose h else 0
def vx(fn b:Int):Rat:=R.fv fn (R.qz (qW.aRI b)) (kx b)
theorem bCX:R.qz (0,0)=0:=R.lP rfl
end M
namespace M
open Go AI W
structure aXI(x:Int×Int)(n:Nat)(E:Int)(B:Rat):Prop where
 uK:iL x
 bl:bl x.1.natAbs<=n
 e:E<=x.2
 b:R.ab (R.qz x)<=B
theorem aJX{n:Nat}{E:Int}(hE:E<=0):aXI (0,0) n E 1:=by
 refine⟨?_,by show bl 0<=_;rw[Fk];omega,hE,by rw[bCX,R.bS bSF];grind⟩;have e:aK 0 0=(0,0):=cZ ..;exact e▸fF (fJ (by decide +kernel) (by decide +kernel)) (by decide +kernel)
end M
namespace M
open Go AI W
theorem Ae(a b:Int×Int):R.qz (dM.eY a b)=R.qz a*R.qz b:=by
 unfold dM.eY;rw[mF,bWL,R.kB];unfold R.qz;grind
end M
namespace W
open Go AI M
namespace Bd
def E:=mE [(120,Da.aG)] 9 [] [] []
def aE:=bd f170
theorem aW:Nk E aE:=nk
theorem start a b c d e f:aF E f170 aE [D.agg [sc (bool a),ints u64 b,sc (int i64 c)],D.agg [sc (bool d),ints u64 e,sc (int i64 f)]]=aP (aL (a,b,c)/\aL (d,e,f)) (some [D.s (sc (bool (decide (cR (dv (a,b,c)) (dv (d,e,f))<0))))]):=eJ aW
def sp(x y:dR):Prop×List D:=(aL x/\aL y,[.s (.sc (.bool (decide (cR (dv x) (dv y)<0))))])
theorem spec:fK E f170 aE gZ gZ sp:=by
 intro x y h;exact(start x.1 x.2.1 x.2.2 y.1 y.2.1 y.2.2).trans (gP h)
def aG:cX:=orc2 gZ gZ sp
theorem ok:OK 170 aG:=(eB E aE (aA Da.ok aD) func170).lE rfl spec
end Bd
namespace SFirstL4
def E:=mE [(170,Bd.aG)] 25 [] [(3,[1,4,5,12,13,14])] []
def aE:=bd f168
theorem aW:Nk E aE:=nk
def L3 a b c d e (f:Nat) (g:Nat->Bool) (h:Nat->List Int) (j:Nat->Int) k l:=nG E f168 aE 3 [vA (sc (Value.func (Fn.func 170) { toList:=[] } { toList:=[] })),dG 1 29 [cI a,sc (slice none 0 0),cP b],dG 2 29 [cI c,eT d,cP e],(A.v (V.one (L.rows 3 f fun i=>[sc (bool (g i)),ints u64 (h i),sc (int i64 (j i))])),none),bI k,bI l]
theorem start(a:dR)(b:dR)(c:dR)(d:dR):aF E f168 aE [D.rows 3 4 fun i=>[sc (bool (t4 a b c d i).fst),ints u64 (t4 a b c d i).snd.fst,sc (int i64 (t4 a b c d i).snd.snd)],D.s (sc (Value.func (Fn.func (170:FuncId)) #[] #[]))]=letI A:=t4 a b c d (bZC 0);SFirstL4.L3 false 0 A.fst A.snd.fst A.snd.snd 3 (fun i=>(t4 a b c d (bZC 1+i)).fst) (fun i=>(t4 a b c d (bZC 1+i)).snd.fst) (fun i=>(t4 a b c d (bZC 1+i)).snd.snd) 3 0:=eJ aW
theorem pD a b c d e f g h j k l:L3 a b c d e f g h j k l=letI A:=(g l.toNat,h l.toNat,j l.toNat);aB (decide (l<k)) (if 0<=l/\l<(f:Int)then aP (aL A/\aL (c,d,e)) (aB (decide (cR (dv A) (dv (c,d,e))<0)) (SFirstL4.L3 a b (g l.toNat) (h l.toNat) (j l.toNat) f (fun i=>g i) (fun i=>h i) (fun i=>j i) k (i64.wrap (l+1))) (SFirstL4.L3 a b c d e f (fun i=>g i) (fun i=>h i) (fun i=>j i) k (i64.wrap (l+1))))else none) (some [D.agg [sc (bool c),ints u64 d,sc (int i64 e)]]):=lJ aW
def best(f:Nat->dR):Nat->dR
 |0=>f 0
 |k+1=>bif decide (cR (dv (f (k+1))) (dv (best f k))<0)then f (k+1)else best f k
def pV(a:dR×dR×dR×dR):dR:=best (t4 a.1 a.2.1 a.2.2.1 a.2.2.2) 3
def sp(a:dR×dR×dR×dR)(u:Unit):Prop×List D:=(aL a.1/\aL a.2.1/\aL a.2.2.1/\aL a.2.2.2,[.agg [.sc (.bool (pV a).1),.ints .u64 (pV a).2.1,.sc (.int .i64 (pV a).2.2)]])
theorem kJ{f:Nat->dR}{n:Nat}(hf:∀i,i<n->aL (f i)):∀k,k<n->aL (best f k)
 |0,h=>hf 0 h
 |k+1,h=>by
  unfold best;cases decide (cR (dv (f (k+1))) (dv (best f k))<0)
  ·exact kJ hf k (by omega)
  ·exact hf (k+1) h
theorem L(b0:Bool)(x1:Int)(n:Nat)(f:Nat->dR)(hn:n<1000)(hf:∀i,i<n+1->aL (f i)):∀d k:Nat,k+d=n->L3 b0 x1 (best f k).1 (best f k).2.1 (best f k).2.2 n (fun i=>(f (1+i)).1) (fun i=>(f (1+i)).2.1) (fun i=>(f (1+i)).2.2) (n:Int) (k:Int)=some [.agg [.sc (.bool (best f n).1),.ints .u64 (best f n).2.1,.sc (.int .i64 (best f n).2.2)]]
 |0,k,h=>by
  obtain rfl:k=n:=by omega
  rw[pD,aI]
 |d+1,k,h=>by
  have e:i64.wrap ((k:Int)+1)=((k+1:Nat):Int):=by rw[wrap_i64];omega
  have r:=L b0 x1 n f hn hf d (k+1) (by omega);have g1:aL (f (1+k)):=hf _ (by omega);have g2:aL (best f k):=kJ hf k (by omega);have c1:f (k+1)=f (1+k):=by rw[bRS]
  rw[pD,aO,aU,bPN,gP ⟨g1,g2⟩,e]
  by_cases hc:cR (dv (f (k+1))) (dv (best f k))<0
  ·have hb:best f (k+1)=f (1+k):=by
    rw[<-c1];show(bif decide (cR (dv (f (k+1))) (dv (best f k))<0)then f (k+1)else best f k)=_;rw[decide_eq_true hc];rfl
   rw[c1]at hc;rw[aO hc];rw[hb]at r;exact r
  ·have hb:best f (k+1)=best f k:=by
    show(bif decide (cR (dv (f (k+1))) (dv (best f k))<0)then f (k+1)else best f k)=_;rw[decide_eq_false hc];rfl
   rw[c1]at hc;rw[aI hc];rw[hb]at r;exact r
theorem all{a:dR×dR×dR×dR}(h:aL a.1/\aL a.2.1/\aL a.2.2.1/\aL a.2.2.2):∀i,i<4->aL (t4 a.1 a.2.1 a.2.2.1 a.2.2.2 i):=fun i hi=>by
  obtain rfl |rfl |rfl |rfl:i=0\/i=1\/i=2\/i=3:=by omega
  ·exact h.1
  ·exact h.2.1
  ·exact h.2.2.1
  ·exact h.2.2.2
theorem zI{a:dR×dR×dR×dR}(h:aL a.1/\aL a.2.1/\aL a.2.2.1/\aL a.2.2.2):aL (pV a):=kJ (n:=4) (all h) 3 (by decide)
theorem spec:fK E f168 aE (aLK (.pair sB (.pair (sI .u64) (sN .i64))) (false,[],0)) (pFn 170) sp:=fun a u h =>
 (start a.1 a.2.1 a.2.2.1 a.2.2.2).trans (L false 0 3 (t4 a.1 a.2.1 a.2.2.1 a.2.2.2) (by decide) (all h) 3 0 (by decide))
def aG:cX:=orc2 (aLK (.pair sB (.pair (sI .u64) (sN .i64))) (false,[],0)) (pFn 170) sp
theorem ok:OK 168 aG:=(eB E aE (aA Bd.ok aD) func168).lE rfl spec
end SFirstL4
namespace Oc
def E:=mE [(168,SFirstL4.aG)] 5 [] [] []
def aE:=bd f122
theorem aW:Nk E aE:=nk
theorem start(a:dR)(b:dR)(c:dR)(d:dR):aF E f122 aE [D.rows 3 4 fun i=>[sc (bool (t4 a b c d i).fst),ints u64 (t4 a b c d i).snd.fst,sc (int i64 (t4 a b c d i).snd.snd)]]=letI G:=t4 a b c d 3;letI F:=t4 a b c d 2;letI K:=(F.fst,F.snd.fst,F.snd.snd);letI C:=t4 a b c d 1;letI I:=(C.fst,C.snd.fst,C.snd.snd);letI B:=t4 a b c d 0;letI H:=(B.fst,B.snd.fst,B.snd.snd);letI A:=SFirstL4.pV (H,I,K,G.fst,G.snd.fst,G.snd.snd);aP (aL H/\aL I/\aL K/\aL (G.fst,G.snd.fst,G.snd.snd)) (some [D.agg [sc (bool A.fst),ints u64 A.snd.fst,sc (int i64 A.snd.snd)]]):=eJ aW
def sp(a:dR×dR×dR×dR):Prop×List D:=(aL a.1/\aL a.2.1/\aL a.2.2.1/\aL a.2.2.2,[.agg [.sc (.bool (SFirstL4.pV a).1),.ints .u64 (SFirstL4.pV a).2.1,.sc (.int .i64 (SFirstL4.pV a).2.2)]])
theorem spec:gI E f122 aE (aLK (.pair sB (.pair (sI .u64) (sN .i64))) (false,[],0)) sp:=fun a h =>
 (start a.1 a.2.1 a.2.2.1 a.2.2.2).trans (gP h)
def aG:cX:=orc1 (aLK (.pair sB (.pair (sI .u64) (sN .i64))) (false,[],0)) sp
theorem ok:OK 122 aG:=(eB E aE (aA SFirstL4.ok aD) func122).nA rfl spec
end Oc
namespace Be
def E:=mE [(120,Da.aG)] 9 [] [] []
def aE:=bd f169
theorem aW:Nk E aE:=nk
theorem start a b c d e f:aF E f169 aE [D.agg [sc (bool a),ints u64 b,sc (int i64 c)],D.agg [sc (bool d),ints u64 e,sc (int i64 f)]]=aP (aL (a,b,c)/\aL (d,e,f)) (some [D.s (sc (bool (decide (0<cR (dv (a,b,c)) (dv (d,e,f))))))]):=eJ aW
def sp(x y:dR):Prop×List D:=(aL x/\aL y,[.s (.sc (.bool (decide (0<cR (dv x) (dv y)))))])
theorem spec:fK E f169 aE gZ gZ sp:=by
 intro x y h;exact(start x.1 x.2.1 x.2.2 y.1 y.2.1 y.2.2).trans (gP h)
def aG:cX:=orc2 gZ gZ sp
theorem ok:OK 169 aG:=(eB E aE (aA Da.ok aD) func169).lE rfl spec
end Be
namespace SFirstG4
def E:=mE [(169,Be.aG)] 25 [] [(3,[1,4,5,12,13,14])] []
def aE:=bd f168
theorem aW:Nk E aE:=nk
def L3 a b c d e (f:Nat) (g:Nat->Bool) (h:Nat->List Int) (j:Nat->Int) k l:=nG E f168 aE 3 [vA (sc (Value.func (Fn.func 169) { toList:=[] } { toList:=[] })),dG 1 29 [cI a,sc (slice none 0 0),cP b],dG 2 29 [cI c,eT d,cP e],(A.v (V.one (L.rows 3 f fun i=>[sc (bool (g i)),ints u64 (h i),sc (int i64 (j i))])),none),bI k,bI l]
theorem start(a:dR)(b:dR)(c:dR)(d:dR):aF E f168 aE [D.rows 3 4 fun i=>[sc (bool (t4 a b c d i).fst),ints u64 (t4 a b c d i).snd.fst,sc (int i64 (t4 a b c d i).snd.snd)],D.s (sc (Value.func (Fn.func (169:FuncId)) #[] #[]))]=letI A:=t4 a b c d (bZC 0);SFirstG4.L3 false 0 A.fst A.snd.fst A.snd.snd 3 (fun i=>(t4 a b c d (bZC 1+i)).fst) (fun i=>(t4 a b c d (bZC 1+i)).snd.fst) (fun i=>(t4 a b c d (bZC 1+i)).snd.snd) 3 0:=eJ aW
theorem pD a b c d e f g h j k l:L3 a b c d e f g h j k l=letI A:=(g l.toNat,h l.toNat,j l.toNat);aB (decide (l<k)) (if 0<=l/\l<(f:Int)then aP (aL A/\aL (c,d,e)) (aB (decide (0<cR (dv A) (dv (c,d,e)))) (SFirstG4.L3 a b (g l.toNat) (h l.toNat) (j l.toNat) f (fun i=>g i) (fun i=>h i) (fun i=>j i) k (i64.wrap (l+1))) (SFirstG4.L3 a b c d e f (fun i=>g i) (fun i=>h i) (fun i=>j i) k (i64.wrap (l+1))))else none) (some [D.agg [sc (bool c),ints u64 d,sc (int i64 e)]]):=lJ aW
def best(f:Nat->dR):Nat->dR
 |0=>f 0
 |k+1=>bif decide (0<cR (dv (f (k+1))) (dv (best f k)))then f (k+1)else best f k
def pV(a:dR×dR×dR×dR):dR:=best (t4 a.1 a.2.1 a.2.2.1 a.2.2.2) 3
def sp(a:dR×dR×dR×dR)(u:Unit):Prop×List D:=(aL a.1/\aL a.2.1/\aL a.2.2.1/\aL a.2.2.2,[.agg [.sc (.bool (pV a).1),.ints .u64 (pV a).2.1,.sc (.int .i64 (pV a).2.2)]])
theorem kJ{f:Nat->dR}{n:Nat}(hf:∀i,i<n->aL (f i)):∀k,k<n->aL (best f k)
 |0,h=>hf 0 h
 |k+1,h=>by
  unfold best;cases decide (0<cR (dv (f (k+1))) (dv (best f k)))
  ·exact kJ hf k (by omega)
  ·exact hf (k+1) h
theorem L(b0:Bool)(x1:Int)(n:Nat)(f:Nat->dR)(hn:n<1000)(hf:∀i,i<n+1->aL (f i)):∀d k:Nat,k+d=n->L3 b0 x1 (best f k).1 (best f k).2.1 (best f k).2.2 n (fun i=>(f (1+i)).1) (fun i=>(f (1+i)).2.1) (fun i=>(f (1+i)).2.2) (n:Int) (k:Int)=some [.agg [.sc (.bool (best f n).1),.ints .u64 (best f n).2.1,.sc (.int .i64 (best f n).2.2)]]
 |0,k,h=>by
  obtain rfl:k=n:=by omega
  rw[pD,aI]
 |d+1,k,h=>by
  have e:i64.wrap ((k:Int)+1)=((k+1:Nat):Int):=by rw[wrap_i64];omega
  have r:=L b0 x1 n f hn hf d (k+1) (by omega);have g1:aL (f (1+k)):=hf _ (by omega);have g2:aL (best f k):=kJ hf k (by omega);have c1:f (k+1)=f (1+k):=by rw[bRS]
  rw[pD,aO,aU,bPN,gP ⟨g1,g2⟩,e]
  by_cases hc:0<cR (dv (f (k+1))) (dv (best f k))
  ·have hb:best f (k+1)=f (1+k):=by
    rw[<-c1];show(bif decide (0<cR (dv (f (k+1))) (dv (best f k)))then f (k+1)else best f k)=_;rw[decide_eq_true hc];rfl
   rw[c1]at hc;rw[aO hc];rw[hb]at r;exact r
  ·have hb:best f (k+1)=best f k:=by
    show(bif decide (0<cR (dv (f (k+1))) (dv (best f k)))then f (k+1)else best f k)=_;rw[decide_eq_false hc];rfl
   rw[c1]at hc;rw[aI hc];rw[hb]at r;exact r
theorem all{a:dR×dR×dR×dR}(h:aL a.1/\aL a.2.1/\aL a.2.2.1/\aL a.2.2.2):∀i,i<4->aL (t4 a.1 a.2.1 a.2.2.1 a.2.2.2 i):=fun i hi=>by
  obtain rfl |rfl |rfl |rfl:i=0\/i=1\/i=2\/i=3:=by omega
  ·exact h.1
  ·exact h.2.1
  ·exact h.2.2.1
  ·exact h.2.2.2
theorem zI{a:dR×dR×dR×dR}(h:aL a.1/\aL a.2.1/\aL a.2.2.1/\aL a.2.2.2):aL (pV a):=kJ (n:=4) (all h) 3 (by decide)
theorem spec:fK E f168 aE (aLK (.pair sB (.pair (sI .u64) (sN .i64))) (false,[],0)) (pFn 169) sp:=fun a u h =>
 (start a.1 a.2.1 a.2.2.1 a.2.2.2).trans (L false 0 3 (t4 a.1 a.2.1 a.2.2.1 a.2.2.2) (by decide) (all h) 3 0 (by decide))
def aG:cX:=orc2 (aLK (.pair sB (.pair (sI .u64) (sN .i64))) (false,[],0)) (pFn 169) sp
theorem ok:OK 168 aG:=(eB E aE (aA Be.ok aD) func168).lE rfl spec
end SFirstG4
namespace Od
def E:=mE [(168,SFirstG4.aG)] 5 [] [] []
def aE:=bd f121
theorem aW:Nk E aE:=nk
theorem start(a:dR)(b:dR)(c:dR)(d:dR):aF E f121 aE [D.rows 3 4 fun i=>[sc (bool (t4 a b c d i).fst),ints u64 (t4 a b c d i).snd.fst,sc (int i64 (t4 a b c d i).snd.snd)]]=letI G:=t4 a b c d 3;letI F:=t4 a b c d 2;letI K:=(F.fst,F.snd.fst,F.snd.snd);letI C:=t4 a b c d 1;letI I:=(C.fst,C.snd.fst,C.snd.snd);letI B:=t4 a b c d 0;letI H:=(B.fst,B.snd.fst,B.snd.snd);letI A:=SFirstG4.pV (H,I,K,G.fst,G.snd.fst,G.snd.snd);aP (aL H/\aL I/\aL K/\aL (G.fst,G.snd.fst,G.snd.snd)) (some [D.agg [sc (bool A.fst),ints u64 A.snd.fst,sc (int i64 A.snd.snd)]]):=eJ aW
def sp(a:dR×dR×dR×dR):Prop×List D:=(aL a.1/\aL a.2.1/\aL a.2.2.1/\aL a.2.2.2,[.agg [.sc (.bool (SFirstG4.pV a).1),.ints .u64 (SFirstG4.pV a).2.1,.sc (.int .i64 (SFirstG4.pV a).2.2)]])
theorem spec:gI E f121 aE (aLK (.pair sB (.pair (sI .u64) (sN .i64))) (false,[],0)) sp:=fun a h =>
 (start a.1 a.2.1 a.2.2.1 a.2.2.2).trans (gP h)
def aG:cX:=orc1 (aLK (.pair sB (.pair (sI .u64) (sN .i64))) (false,[],0)) sp
theorem ok:OK 121 aG:=(eB E aE (aA SFirstG4.ok aD) func121).nA rfl spec
end Od
namespace SMul
def E:Env:={ ({ base with C:=callsOf [(117,uZ.aG),(155,dM.aG),(122,Oc.aG),(121,Od.aG),(118,xF.aG)],roll:=tlook [(6,3),(9,3)] })with nt:=69,own:=[20,48,66],keep:=fun k=>(tlook [(9,[2,4,6,9,11,29,30,31,39,40,41]),(6,[2,4,6,9,29,30,31])] k).getD [],cut:=tlook [(17,[2,6,1000009])] }
def aE:=bd f114
theorem start a b d e f g h i j k l m c:aF E f114 aE [D.agg [sc (bool a),ints u64 b,sc (int i64 d),sc (bool e),ints u64 f,sc (int i64 g)],D.agg [sc (bool h),ints u64 i,sc (int i64 j),sc (bool k),ints u64 l,sc (int i64 m)],D.s (sc (int i64 c))]=aP (eG (a,b,d,e,f,g)/\eG (h,i,j,k,l,m)) (aC (if 1<=c/\c<=70000 then(0:Int)else(1:Int)) fun n=>aB (n !=0) (some [D.agg [sc (bool false),sc (slice none 0 0),sc (int i64 0),sc (bool false),sc (slice none 0 0),sc (int i64 0)],D.s (sc (int i64 n))]) (aP (aL (a,b,d)/\aL (h,i,j)) (aC (isNeg (bif dM.jX (dv (a,b,d)) (dv (h,i,j))then dM.eY (dv (a,b,d)) (dv (h,i,j))else((0:Int),(0:Int))).fst) fun o=>aC (M6.dg (bif dM.jX (dv (a,b,d)) (dv (h,i,j))then dM.eY (dv (a,b,d)) (dv (h,i,j))else((0:Int),(0:Int))).fst.natAbs) fun p=>aC (bif dM.jX (dv (a,b,d)) (dv (h,i,j))then dM.eY (dv (a,b,d)) (dv (h,i,j))else((0:Int),(0:Int))).snd fun q=>aC (bif dM.jX (dv (a,b,d)) (dv (h,i,j))then(0:Int)else(5:Int)) fun r=>aB (r !=0) (some [D.agg [sc (bool false),sc (slice none 0 0),sc (int i64 0),sc (bool false),sc (slice none 0 0),sc (int i64 0)],D.s (sc (int i64 r))]) (aP (aL (a,b,d)/\aL (k,l,m)) (aC (isNeg (bif dM.jX (dv (a,b,d)) (dv (k,l,m))then dM.eY (dv (a,b,d)) (dv (k,l,m))else((0:Int),(0:Int))).fst) fun s=>aC (M6.dg (bif dM.jX (dv (a,b,d)) (dv (k,l,m))then dM.eY (dv (a,b,d)) (dv (k,l,m))else((0:Int),(0:Int))).fst.natAbs) fun t=>aC (bif dM.jX (dv (a,b,d)) (dv (k,l,m))then dM.eY (dv (a,b,d)) (dv (k,l,m))else((0:Int),(0:Int))).snd fun u=>aC (bif dM.jX (dv (a,b,d)) (dv (k,l,m))then(0:Int)else(5:Int)) fun v=>aB (v !=0) (some [D.agg [sc (bool false),sc (slice none 0 0),sc (int i64 0),sc (bool false),sc (slice none 0 0),sc (int i64 0)],D.s (sc (int i64 v))]) (aP (aL (e,f,g)/\aL (h,i,j)) (aC (isNeg (bif dM.jX (dv (e,f,g)) (dv (h,i,j))then dM.eY (dv (e,f,g)) (dv (h,i,j))else((0:Int),(0:Int))).fst) fun w=>aC (M6.dg (bif dM.jX (dv (e,f,g)) (dv (h,i,j))then dM.eY (dv (e,f,g)) (dv (h,i,j))else((0:Int),(0:Int))).fst.natAbs) fun x=>aC (bif dM.jX (dv (e,f,g)) (dv (h,i,j))then dM.eY (dv (e,f,g)) (dv (h,i,j))else((0:Int),(0:Int))).snd fun y=>aC (bif dM.jX (dv (e,f,g)) (dv (h,i,j))then(0:Int)else(5:Int)) fun z=>aB (z !=0) (some [D.agg [sc (bool false),sc (slice none 0 0),sc (int i64 0),sc (bool false),sc (slice none 0 0),sc (int i64 0)],D.s (sc (int i64 z))]) (aP (aL (e,f,g)/\aL (k,l,m)) (aC (isNeg (bif dM.jX (dv (e,f,g)) (dv (k,l,m))then dM.eY (dv (e,f,g)) (dv (k,l,m))else((0:Int),(0:Int))).fst) fun aa=>aC (M6.dg (bif dM.jX (dv (e,f,g)) (dv (k,l,m))then dM.eY (dv (e,f,g)) (dv (k,l,m))else((0:Int),(0:Int))).fst.natAbs) fun ab=>aC (bif dM.jX (dv (e,f,g)) (dv (k,l,m))then dM.eY (dv (e,f,g)) (dv (k,l,m))else((0:Int),(0:Int))).snd fun ac=>aC (bif dM.jX (dv (e,f,g)) (dv (k,l,m))then(0:Int)else(5:Int)) fun ad=>aB (ad !=0) (some [D.agg [sc (bool false),sc (slice none 0 0),sc (int i64 0),sc (bool false),sc (slice none 0 0),sc (int i64 0)],D.s (sc (int i64 ad))]) (aP (aL (o,p,q)/\aL (s,t,u)/\aL (w,x,y)/\aL (aa,ab,ac)) (aC (SFirstL4.pV ((o,p,q),(s,t,u),(w,x,y),aa,ab,ac)).fst fun ae=>aC (SFirstL4.pV ((o,p,q),(s,t,u),(w,x,y),aa,ab,ac)).snd.fst fun af=>aC (SFirstL4.pV ((o,p,q),(s,t,u),(w,x,y),aa,ab,ac)).snd.snd fun ag=>aP (aL (o,p,q)/\aL (s,t,u)/\aL (w,x,y)/\aL (aa,ab,ac)) (aC (SFirstG4.pV ((o,p,q),(s,t,u),(w,x,y),aa,ab,ac)).fst fun ah=>aC (SFirstG4.pV ((o,p,q),(s,t,u),(w,x,y),aa,ab,ac)).snd.fst fun ai=>aC (SFirstG4.pV ((o,p,q),(s,t,u),(w,x,y),aa,ab,ac)).snd.snd fun aj=>aP (aL (ae,af,ag)/\aL (ah,ai,aj)/\(1<=c/\c<=70000)/\vW false (dv (ae,af,ag)) c=true/\vW true (dv (ah,ai,aj)) c=true) (aC (isNeg (M.shD false (dv (ae,af,ag)) c).fst) fun ak=>aC (M6.dg (M.shD false (dv (ae,af,ag)) c).fst.natAbs) fun al=>aC (M.shD false (dv (ae,af,ag)) c).snd fun am=>aC (isNeg (M.shD true (dv (ah,ai,aj)) c).fst) fun an=>aC (M6.dg (M.shD true (dv (ah,ai,aj)) c).fst.natAbs) fun ao=>aC (M.shD true (dv (ah,ai,aj)) c).snd fun ap=>some [D.agg [sc (bool ak),ints u64 al,sc (int i64 am),sc (bool an),ints u64 ao,sc (int i64 ap)],D.s (sc (int i64 0))]))))))))))))):=by kernel_rfl
def wJ(a b:(Int×Int)×(Int×Int)):Int×Int:=Bm (Bm (Bm (dM.eY a.1 b.1) (dM.eY a.1 b.2)) (dM.eY a.2 b.1)) (dM.eY a.2 b.2)
def wK(a b:(Int×Int)×(Int×Int)):Int×Int:=Bn (Bn (Bn (dM.eY a.1 b.1) (dM.eY a.1 b.2)) (dM.eY a.2 b.1)) (dM.eY a.2 b.2)
def aJA(a b:(Int×Int)×(Int×Int)):Prop:=dM.jX a.1 b.1=true/\dM.jX a.1 b.2=true/\dM.jX a.2 b.1=true/\dM.jX a.2 b.2=true
abbrev eS(s:rY):(Int×Int)×(Int×Int):=(dv (gN s),dv (gO s))
def sp(s t:rY)(p:Int):Prop×List D:=((eG s/\eG t)/\(1<=p/\p<=70000)/\aJA (eS s) (eS t)/\vW false (wJ (eS s) (eS t)) p=true/\vW true (wK (eS s) (eS t)) p=true,[yE (shD false (wJ (eS s) (eS t)) p) (shD true (wK (eS s) (eS t)) p),.s (.sc (.int .i64 0))])
theorem Ez{p q:Int×Int}(h:dM.jX p q=true):iL (dM.eY p q):=by
 unfold dM.jX at h;rw[bLX]at h;exact fF h.2 (of_decide_eq_true h.1)
theorem bGV(a:dR×dR×dR×dR):dv (SFirstL4.pV a)=Bm (Bm (Bm (dv a.1) (dv a.2.1)) (dv a.2.2.1)) (dv a.2.2.2):=by
 have st:∀x y:dR,dv (bif decide (cR (dv x) (dv y)<0)then x else y)=Bm (dv y) (dv x):=by
  intro x y;unfold Bm;cases decide (cR (dv x) (dv y)<0) <;> rfl
 show dv (bif decide (cR (dv a.2.2.2) (dv (bif decide (cR (dv a.2.2.1) (dv (bif decide (cR (dv a.2.1) (dv a.1)<0)then a.2.1 else a.1))<0)then a.2.2.1 else(bif decide (cR (dv a.2.1) (dv a.1)<0)then a.2.1 else a.1)))<0)then a.2.2.2 else(bif decide (cR (dv a.2.2.1) (dv (bif decide (cR (dv a.2.1) (dv a.1)<0)then a.2.1 else a.1))<0)then a.2.2.1 else(bif decide (cR (dv a.2.1) (dv a.1)<0)then a.2.1 else a.1)))=_;rw[st,st,st]
theorem bKU(a:dR×dR×dR×dR):dv (SFirstG4.pV a)=Bn (Bn (Bn (dv a.1) (dv a.2.1)) (dv a.2.2.1)) (dv a.2.2.2):=by
 have st:∀x y:dR,dv (bif decide (0<cR (dv x) (dv y))then x else y)=Bn (dv y) (dv x):=by
  intro x y;unfold Bn;cases decide (0<cR (dv x) (dv y)) <;> rfl
 show dv (bif decide (0<cR (dv a.2.2.2) (dv (bif decide (0<cR (dv a.2.2.1) (dv (bif decide (0<cR (dv a.2.1) (dv a.1))then a.2.1 else a.1)))then a.2.2.1 else(bif decide (0<cR (dv a.2.1) (dv a.1))then a.2.1 else a.1))))then a.2.2.2 else(bif decide (0<cR (dv a.2.2.1) (dv (bif decide (0<cR (dv a.2.1) (dv a.1))then a.2.1 else a.1)))then a.2.2.1 else(bif decide (0<cR (dv a.2.1) (dv a.1))then a.2.1 else a.1)))=_;rw[st,st,st]
theorem spec:qR E f114 aE sZ sZ (pN .i64) sp:=by
 rintro s t p ⟨⟨h1,h2⟩,hp,⟨m1,m2,m3,m4⟩,i1,i2⟩;have hL:aL (s.1,s.2.1,s.2.2.1):=h1.1;have hH:aL (s.2.2.2.1,s.2.2.2.2.1,s.2.2.2.2.2):=h1.2.1;have kL:aL (t.1,t.2.1,t.2.2.1):=h2.1;have kH:aL (t.2.2.2.1,t.2.2.2.2.1,t.2.2.2.2.2):=h2.2.1;refine(start s.1 s.2.1 s.2.2.1 s.2.2.2.1 s.2.2.2.2.1 s.2.2.2.2.2 t.1 t.2.1 t.2.2.1 t.2.2.2.1 t.2.2.2.2.1 t.2.2.2.2.2 p).trans ?_;unfold sp wJ wK eS at *;dsimp only at *;unfold gN gO at *;generalize ha:dv (s.1,s.2.1,s.2.2.1)=a at *;generalize hb:dv (s.2.2.2.1,s.2.2.2.2.1,s.2.2.2.2.2)=b at *;generalize hc:dv (t.1,t.2.1,t.2.2.1)=c at *;generalize hd:dv (t.2.2.2.1,t.2.2.2.2.1,t.2.2.2.2.2)=d at *;have d1:=cF (Ez m1);have d2:=cF (Ez m2);have d3:=cF (Ez m3);have d4:=cF (Ez m4);have e1:=cU (dM.eY a c);have e2:=cU (dM.eY a d);have e3:=cU (dM.eY b c);have e4:=cU (dM.eY b d);rw[gP ⟨h1,h2⟩,aM,if_pos hp,eN rfl,gP ⟨hL,kL⟩];simp only[aM,m1,m2,m3,m4,cond_true];rw[eN rfl,gP ⟨hL,kH⟩,eN rfl,gP ⟨hH,kL⟩,eN rfl,gP ⟨hH,kH⟩,eN rfl];obtain⟨Q,hQ⟩:∃Q:dR×dR×dR×dR,Q=((isNeg (dM.eY a c).1,M6.dg (dM.eY a c).1.natAbs,(dM.eY a c).2),(isNeg (dM.eY a d).1,M6.dg (dM.eY a d).1.natAbs,(dM.eY a d).2),(isNeg (dM.eY b c).1,M6.dg (dM.eY b c).1.natAbs,(dM.eY b c).2),(isNeg (dM.eY b d).1,M6.dg (dM.eY b d).1.natAbs,(dM.eY b d).2)):=⟨_,rfl⟩;have dQ:aL Q.1/\aL Q.2.1/\aL Q.2.2.1/\aL Q.2.2.2:=by rw[hQ];exact⟨d1,d2,d3,d4⟩
 have v1:=bGV Q;have v2:=bKU Q;have k1:=SFirstL4.zI dQ;have k2:=SFirstG4.zI dQ;rw[show dv Q.1=dM.eY a c by rw[hQ];exact e1,show dv Q.2.1=dM.eY a d by rw[hQ];exact e2,show dv Q.2.2.1=dM.eY b c by rw[hQ];exact e3,show dv Q.2.2.2=dM.eY b d by rw[hQ];exact e4]at v1 v2;rw[gP ⟨d1,d2,d3,d4⟩,gP ⟨d1,d2,d3,d4⟩,<-hQ];rw[<-v1]at i1 ⊢;rw[<-v2]at i2 ⊢;exact gP ⟨k1,k2,hp,i1,i2⟩
def aG:cX:=orc3 sZ sZ (pN .i64) sp
theorem fnok:qA prog E 114 f114 aE:=Zl oV mixed (kG _ rfl (aA uZ.ok (aA dM.ok (aA Oc.ok (aA Od.ok (aA xF.ok aD))))) (mG)) func114 rfl rfl rfl
theorem ok:kZ prog base.glob 114 aG:=fnok.zA rfl spec
end SMul
end W
namespace M
open Go AI W
theorem Ml{a b x:Rat}{y:Rat}(h1:a<=x)(h2:x<=b):(a*y<=x*y\/b*y<=x*y)/\(x*y<=a*y\/x*y<=b*y):=by
 by_cases h:0<=y
 ·have m1:=R.aH (show 0<=x-a by grind) h;have m2:=R.aH (show 0<=b-x by grind) h;exact⟨.inl (by grind),.inr (by grind)⟩
 ·have m1:=R.aH (show 0<=x-a by grind) (show 0<=-y by grind);have m2:=R.aH (show 0<=b-x by grind) (show 0<=-y by grind);exact⟨.inr (by grind),.inl (by grind)⟩
theorem aNT{a b:(Int×Int)×(Int×Int)}{x y:Rat}(h1:R.qz a.1<=x)(h2:x<=R.qz a.2)(h3:R.qz b.1<=y)(h4:y<=R.qz b.2):R.qz (SMul.wJ a b)<=x*y/\x*y<=R.qz (SMul.wK a b):=by
 obtain⟨l1,l2⟩:=Tg (dM.eY a.1 b.1) (dM.eY a.1 b.2);obtain⟨l3,l4⟩:=Tg (Bm (dM.eY a.1 b.1) (dM.eY a.1 b.2)) (dM.eY a.2 b.1);obtain⟨l5,l6⟩:=Tg (Bm (Bm (dM.eY a.1 b.1) (dM.eY a.1 b.2)) (dM.eY a.2 b.1)) (dM.eY a.2 b.2);obtain⟨g1,g2⟩:=Tv (dM.eY a.1 b.1) (dM.eY a.1 b.2);obtain⟨g3,g4⟩:=Tv (Bn (dM.eY a.1 b.1) (dM.eY a.1 b.2)) (dM.eY a.2 b.1);obtain⟨g5,g6⟩:=Tv (Bn (Bn (dM.eY a.1 b.1) (dM.eY a.1 b.2)) (dM.eY a.2 b.1)) (dM.eY a.2 b.2);change R.qz (SMul.wJ a b)<=_ at l5 l6;change _<=R.qz (SMul.wK a b)at g5 g6;rw[Ae]at l1 l2 l4 l6 g1 g2 g4 g6;generalize R.qz (SMul.wJ a b)=L at *;generalize R.qz (SMul.wK a b)=H at *;generalize R.qz (Bm (Bm (dM.eY a.1 b.1) (dM.eY a.1 b.2)) (dM.eY a.2 b.1))=L2 at *;generalize R.qz (Bm (dM.eY a.1 b.1) (dM.eY a.1 b.2))=L1 at *;generalize R.qz (Bn (Bn (dM.eY a.1 b.1) (dM.eY a.1 b.2)) (dM.eY a.2 b.1))=G2 at *;generalize R.qz (Bn (dM.eY a.1 b.1) (dM.eY a.1 b.2))=G1 at *;generalize R.qz a.1=a1 at *;generalize R.qz a.2=a2 at *;generalize R.qz b.1=b1 at *;generalize R.qz b.2=b2 at *;obtain⟨m1,m2⟩:=Ml (y:=y) h1 h2;obtain⟨p1,p2⟩:=Ml (y:=a1) h3 h4;obtain⟨q1,q2⟩:=Ml (y:=a2) h3 h4;constructor
 ·rcases m1 with m |m
  ·rcases p1 with p |p <;> grind
  ·rcases q1 with q |q <;> grind
 ·rcases m2 with m |m
  ·rcases p2 with p |p <;> grind
  ·rcases q2 with q |q <;> grind
end M
namespace W
open Go AI M
namespace Oh
def E:=mE [(50,iJ.aG)] 31 [] [] []
def aE:=bd f199
theorem aW:Nk E aE:=nk
theorem start a b c:aF E f199 aE [D.s (ints u64 a),D.s (ints u64 b),D.s (sc (int i64 c))]=letI C:=i64.wrap ((0:Int)-c);letI B:=bif fR (wv (false,b)) C then aK (wv (false,b)) C else((0:Int),(0:Int));letI A:=bif fR (wv (false,a)) C then aK (wv (false,a)) C else((0:Int),(0:Int));aP (jK (false,a)/\(-9223372036854775808:Int)<=i64.wrap ((0:Int)-c)/\i64.wrap ((0:Int)-c)<9223372036854775808) (aC (isNeg A.fst) fun d=>aC (M6.dg A.fst.natAbs) fun e=>aC A.snd fun f=>aP (jK (false,b)/\(-9223372036854775808:Int)<=i64.wrap ((0:Int)-c)/\i64.wrap ((0:Int)-c)<9223372036854775808) (aC (isNeg B.fst) fun g=>aC (M6.dg B.fst.natAbs) fun h=>aC B.snd fun i=>some [D.agg [sc (bool d),ints u64 e,sc (int i64 f),sc (bool g),ints u64 h,sc (int i64 i)],D.s (sc (int i64 0))])):=eJ aW
def sp(a b:List Int)(w:Int):Prop×List D:=(jK (false,a)/\jK (false,b)/\(-100000<=w/\w<=100000)/\fR (wv (false,a)) (-w)=true/\fR (wv (false,b)) (-w)=true,[yE (aK (wv (false,a)) (-w)) (aK (wv (false,b)) (-w)),.s (.sc (.int .i64 0))])
theorem spec:qR E f199 aE (pI .u64) (pI .u64) (pN .i64) sp:=by
 rintro a b w ⟨ha,hb,hw,i1,i2⟩;have e:i64.wrap (0-w)=-w:=by rw[wrap_i64];omega
 refine(start a b w).trans ?_;rw[e,i1,i2,gP ⟨ha,by omega,by omega⟩];simp only[aM,cond_true];rw[gP ⟨hb,by omega,by omega⟩];rfl
def aG:cX:=orc3 (pI .u64) (pI .u64) (pN .i64) sp
theorem ok:OK 199 aG:=(eB E aE (aA iJ.ok aD) func199).zA rfl spec
end Oh
namespace aGV
def E:=mE [(100,qT.aG),(95,mM.aG),(199,Oh.aG)] 26 [23] [] []
def aE:=bd f153
theorem aW:Nk E aE:=nk
theorem start a b c:aF E f153 aE [D.s (ints u64 a),D.s (sc (int i64 b)),D.s (sc (int i64 c))]=letI F:=int i64 0;letI C:=M6.val a+M6.val (M6.dg 1);letI A:=aK (wv (false,a)) (-c);aB (b !=0) (some [D.agg [sc (bool false),sc (slice none 0 0),sc F,sc (bool false),sc (slice none 0 0),sc F],D.s (sc (int i64 b))]) (aP ((0:Int)<=(1:Int)/\(1:Int)<(18446744073709551616:Int)) (aP (M6.cD a/\M6.cD (M6.dg 1)/\a.length<=8192/\(M6.dg 1).length<=8192) (aC (bif bZ.kU C then M6.dg C else []) fun d=>letI B:=aK (wv (false,d)) (-c);aP (jK (false,a)/\jK (false,d)/\((-100000:Int)<=c/\c<=100000)/\fR (wv (false,a)) (-c)=true/\fR (wv (false,d)) (-c)=true) (aC (isNeg A.fst) fun e=>aC (M6.dg A.fst.natAbs) fun f=>aC A.snd fun g=>aC (isNeg B.fst) fun h=>aC (M6.dg B.fst.natAbs) fun i=>aC B.snd fun j=>some [D.agg [sc (bool e),ints u64 f,sc (int i64 g),sc (bool h),ints u64 i,sc (int i64 j)],D.s (sc F)])))):=eJ aW
def sp(a:List Int)(e p:Int):Prop×List D:=(e=0/\M6.cD a/\bl (M6.val a)<=100000/\1<=p/\p<=70000,[yE (aK (M6.val a:Int) (-p)) (aK ((M6.val a:Int)+1) (-p)),.s (.sc (.int .i64 0))])
theorem spec:qR E f153 aE (pI .u64) (pN .i64) (pN .i64) sp:=by
 rintro a e p ⟨rfl,ha,hb,p0,p1⟩;have hv:M6.val a<2^100000:=dP.1 hb;have aSZ:M6.val a+1<2^100001:=by rw[bQQ];omega
 have ok:=dA.aLM aSZ (by omega);have la:a.length<=8192:=by
  have:=dA.jU hv (by omega);rwa [M6.Fe ha]at this
 have l1:(M6.dg 1).length<=8192:=dA.jU (k:=1) (by decide) (by omega);have e1:wv (false,a)=(M6.val a:Int):=rfl;have e2:wv (false,M6.dg (M6.val a+1))=(M6.val a:Int)+1:=by
  show((M6.val (M6.dg (M6.val a+1)):Nat):Int)=_;rw[M6.bN];omega
 have b1:bl (M6.val a+1)<=100001:=dP.2 aSZ;have i1:fR (M6.val a:Int) (-p)=true:=fJ (by omega) (by rw[bRJ];omega);have i2:fR ((M6.val a:Int)+1) (-p)=true:=fJ (by omega) (by rw[show((M6.val a:Int)+1).natAbs=M6.val a+1 by omega];omega);refine(start a 0 p).trans ?_;rw[eN rfl,gP ⟨by decide,by decide⟩,gP ⟨ha,M6.aX _,la,l1⟩,M6.bN,ok,cond_true,aM];refine(gP ⟨⟨ha,fun h=>(by cases h),la⟩,⟨M6.aX _,fun h=>(by cases h),dA.jU aSZ (by omega)⟩,by omega,by rw[e1];exact i1,by rw[e2];exact i2⟩).trans ?_;rw[e1,e2];rfl
def aG:cX:=orc3 (pI .u64) (pN .i64) (pN .i64) sp
theorem ok:OK 153 aG:=(eB E aE (aA qT.ok (aA mM.ok (aA Oh.ok aD))) func153).zA rfl spec
end aGV
namespace pZ
def E:=mE [(152,uA.aG),(153,aGV.aG)] 17 [14] [] []
def aE:=bd f112
theorem aW:Nk E aE:=nk
theorem start a:aF E f112 aE [D.s (sc (int i64 a))]=letI C:=M6.dg (R.pF a.toNat);letI A:=(↑(M6.val C):Int);letI F:=aK A (-a);letI B:=aK (A+(1:Int)) (-a);aP (1<=a/\a<=70000) (aP ((0:Int)=(0:Int)/\M6.cD C/\bl (M6.val C)<=100000/\1<=a/\a<=70000) (aC (isNeg F.fst) fun b=>aC (M6.dg F.fst.natAbs) fun c=>aC F.snd fun d=>aC (isNeg B.fst) fun e=>aC (M6.dg B.fst.natAbs) fun f=>aC B.snd fun g=>some [D.agg [sc (bool b),ints u64 c,sc (int i64 d),sc (bool e),ints u64 f,sc (int i64 g)],D.s (sc (int i64 0))])):=eJ aW
def qK(p:Int):(Int×Int)×(Int×Int):=(aK (R.pF p.toNat:Int) (-p),aK ((R.pF p.toNat:Int)+1) (-p))
def sp(p:Int):Prop×List D:=(1<=p/\p<=70000,[yE (qK p).1 (qK p).2,.s (.sc (.int .i64 0))])
theorem aLL{p:Int}(h:1<=p/\p<=70000):bl (R.pF p.toNat)<=100000:=by
 obtain⟨q,rfl⟩:=bQT (show 0<=p by omega);rw[bPN];have h1:=(R.Gp (q:=q) (by omega)).1;obtain⟨_,p2⟩:=R.rJ;have P:(0:Rat)<((2^q:Nat):Rat):=by exact_mod_cast bOQ (n:=q) (show 0<2 by decide)
 have m:=R.aH (bQY P) (show 0<=4-R.pi by grind);have h2:(R.pF q:Rat)<=((2^(q+2):Nat):Rat):=by
  have:((2^(q+2):Nat):Rat)=((2^q:Nat):Rat)*4:=by rw[bQS];push_cast;norm_cast
  grind
 have h3:R.pF q<=2^(q+2):=by exact_mod_cast h2
 have h4:R.pF q<2^(q+3):=by
  have:2^(q+3)=2*2^(q+2):=by rw[bQQ];omega
  have:=bOQ (n:=q+2) (show 0<2 by decide);omega
 have:=dP.2 h4;omega
theorem spec:gI E f112 aE (pN .i64) sp:=by
 intro p h;refine(start p).trans ((gP h).trans ?_);have b:=aLL h;refine(gP ⟨rfl,M6.aX _,by rw[M6.bN];exact b,h.1,h.2⟩).trans ?_;rw[M6.bN];rfl
def aG:cX:=orc1 (pN .i64) sp
theorem ok:OK 112 aG:=(eB E aE (aA uA.ok (aA aGV.ok aD)) func112).nA rfl spec
end pZ
namespace fO
def E:=mE [(112,pZ.aG),(113,Ig.aG),(114,SMul.aG),(115,rU.aG),(116,cS.aG)] 48 [] [] []
def aE:=bd f64
theorem aW:Nk E aE:=nk
theorem start a c d b:aF E f64 aE [D.agg [sc (bool a),ints u64 c,sc (int i64 d)],D.s (sc (int i64 b))]=letI P:=pZ.qK b;letI F:=i64.wrap (b+8);letI A:=SMul.eS ((a,c,d).fst,(a,c,d).snd.fst,(a,c,d).snd.snd,(a,c,d).fst,(a,c,d).snd.fst,(a,c,d).snd.snd);aP (1<=b/\b<=70000) (aC (isNeg P.fst.fst) fun e=>aC (M6.dg P.fst.fst.natAbs) fun f=>aC P.fst.snd fun g=>aC (isNeg P.snd.fst) fun h=>aC (M6.dg P.snd.fst.natAbs) fun i=>aC P.snd.snd fun j=>letI Q:=(e,f,g,h,i,j);letI B:=SMul.eS Q;letI O:=M.shD true (SMul.wK A B) F;letI I:=M.shD false (SMul.wJ A B) F;aP (aL (a,c,d)) (aP ((eG (a,c,d,a,c,d)/\eG Q)/\(1<=i64.wrap (b+8)/\i64.wrap (b+8)<=70000)/\SMul.aJA (dv (gN ((a,c,d).fst,(a,c,d).snd.fst,(a,c,d).snd.snd,(a,c,d).fst,(a,c,d).snd.fst,(a,c,d).snd.snd)),dv (gO ((a,c,d).fst,(a,c,d).snd.fst,(a,c,d).snd.snd,(a,c,d).fst,(a,c,d).snd.fst,(a,c,d).snd.snd))) (dv (gN Q),dv (gO Q))/\vW false (SMul.wJ A B) F=true/\vW true (SMul.wK A B) F=true) (aC (isNeg I.fst) fun k=>aC (M6.dg I.fst.natAbs) fun l=>aC I.snd fun m=>aC (isNeg O.fst) fun n=>aC (M6.dg O.fst.natAbs) fun o=>aC O.snd fun p=>letI C:=(k,l,m,n,o,p);letI N:=eK.Mb (dv (gO C)) (b+2);letI K:=eK.Ma (dv (gN C)) (b+2);letI H:=bD.qQ (dv (cS.zG C)) (b+2);letI G:=bD.pU (dv (cS.sJ C)) (b+2);aP (rU.aBZ C b) (aC (isNeg K.fst) fun q=>aC (M6.dg K.fst.natAbs) fun r=>aC K.snd fun s=>aC (isNeg N.fst) fun t=>aC (M6.dg N.fst.natAbs) fun u=>aC N.snd fun v=>aP (cS.aKK C b) (aC (isNeg H.fst) fun w=>aC (M6.dg H.fst.natAbs) fun x=>aC H.snd fun y=>aC (isNeg G.fst) fun z=>aC (M6.dg G.fst.natAbs) fun aa=>aC G.snd fun ab=>some [D.agg [sc (bool q),ints u64 r,sc (int i64 s),sc (bool t),ints u64 u,sc (int i64 v)],D.agg [sc (bool w),ints u64 x,sc (int i64 y),sc (bool z),ints u64 aa,sc (int i64 ab)]]))))):=eJ aW
def zJ(r:Int×Int)(q:Int):(Int×Int)×(Int×Int):=(shD false (SMul.wJ (r,r) (pZ.qK q)) (q+8),shD true (SMul.wK (r,r) (pZ.qK q)) (q+8))
def aVQ(r:Int×Int)(q:Int):rY:=mD (zJ r q).1 (zJ r q).2
def aKI(r:Int×Int)(q:Int):Prop:=eG (mD (pZ.qK q).1 (pZ.qK q).2)/\SMul.aJA (r,r) (pZ.qK q)/\vW false (SMul.wJ (r,r) (pZ.qK q)) (q+8)=true/\vW true (SMul.wK (r,r) (pZ.qK q)) (q+8)=true/\rU.aBZ (aVQ r q) q/\cS.aKK (aVQ r q) q
def sp(x:dR)(q:Int):Prop×List D:=(aL x/\(1<=q/\q<=66500)/\aKI (dv x) q,[yE (gS (zJ (dv x) q).1 (zJ (dv x) q).2 (q+2)).1 (gS (zJ (dv x) q).1 (zJ (dv x) q).2 (q+2)).2,yE (gC (zJ (dv x) q).1 (zJ (dv x) q).2 (q+2)).1 (gC (zJ (dv x) q).1 (zJ (dv x) q).2 (q+2)).2])
theorem fold(a b:Int×Int):(isNeg a.1,M6.dg a.1.natAbs,a.2,isNeg b.1,M6.dg b.1.natAbs,b.2)=mD a b:=rfl
theorem spec:fK E f64 aE gZ (pN .i64) sp:=by
 rintro x q ⟨hx,hq,h1,h2,h3,h4,h5,h6⟩;obtain⟨a,b,c⟩:=x;have w:i64.wrap (q+8)=q+8:=wrap_i64;have eP:SMul.eS (mD (pZ.qK q).1 (pZ.qK q).2)=pZ.qK q:=by
  show(dv (gN (mD _ _)),dv (gO (mD _ _)))=_;rw[qB,qC]
 have sx:eG (a,b,c,a,b,c):=⟨hx,hx,La _⟩;refine(start a b c q).trans ((gP ⟨hq.1,by omega⟩).trans ?_);rw[aM,aM,aM,aM,aM,aM,fold,w,eP];refine(gP hx).trans ((gP ⟨⟨sx,h1⟩,⟨by omega,by omega⟩,by rw[qB,qC];exact h2,h3,h4⟩).trans ?_);rw[aM,aM,aM,aM,aM,aM,fold];have e1:dv (gN (aVQ (dv (a,b,c)) q))=(zJ (dv (a,b,c)) q).1:=qB _ _;have e2:dv (gO (aVQ (dv (a,b,c)) q))=(zJ (dv (a,b,c)) q).2:=qC _ _;have f:mD (M.shD false (SMul.wJ (SMul.eS (a,b,c,a,b,c)) (pZ.qK q)) (q+8)) (M.shD true (SMul.wK (SMul.eS (a,b,c,a,b,c)) (pZ.qK q)) (q+8))=aVQ (dv (a,b,c)) q:=rfl;change aP (rU.aBZ (mD (M.shD false (SMul.wJ (SMul.eS (a,b,c,a,b,c)) (pZ.qK q)) (q+8)) (M.shD true (SMul.wK (SMul.eS (a,b,c,a,b,c)) (pZ.qK q)) (q+8))) q) _=_;rw[f,gP h5,aM,aM,aM,aM,aM,aM,gP h6,e1,e2];rfl
def aG:cX:=orc2 gZ (pN .i64) sp
theorem ok:OK 64 aG:=(eB E aE (aA pZ.ok (aA Ig.ok (aA SMul.ok (aA rU.ok (aA cS.ok aD))))) func64).lE rfl spec
end fO
end W
namespace M
open Go AI W
structure aVS(r:Int×Int):Prop where
 uK:iL r
 b:bl r.1.natAbs<=1100
 e:-1100<=r.2/\r.2<=0
 q:R.ab (R.qz r)<=1/4
 g:R.pz (-1075)<=R.ab (R.qz r)
theorem aIT{q:Int}(hq:1<=q/\q<=66500):(iL (pZ.qK q).1/\iL (pZ.qK q).2)/\(bl (pZ.qK q).1.1.natAbs<=100001/\bl (pZ.qK q).2.1.natAbs<=100001)/\(-70000<=(pZ.qK q).1.2/\(pZ.qK q).1.2<=200000)/\(-70000<=(pZ.qK q).2.2/\(pZ.qK q).2.2<=200000)/\R.qz (pZ.qK q).1<=R.pi/\R.pi<=R.qz (pZ.qK q).2/\R.qz (pZ.qK q).2-R.qz (pZ.qK q).1=R.pz (-q):=by
 have hb:=pZ.aLL (p:=q) ⟨hq.1,by omega⟩;have aJP:bl ((R.pF q.toNat:Int)+1).natAbs<=100001:=by
  have h1:=dP.1 hb;refine dP.2 ?_;rw[show((R.pF q.toNat:Int)+1).natAbs=R.pF q.toNat+1 by omega,bQQ];omega
 have vK:bl ((R.pF q.toNat:Int)).natAbs<=100001:=by rw[bRJ];omega
 have i1:fR (R.pF q.toNat:Int) (-q)=true:=fJ (by omega) (by omega);have i2:fR ((R.pF q.toNat:Int)+1) (-q)=true:=fJ (by omega) (by omega);have ex:∀z:Int,bl z.natAbs<=100001->-70000<=(aK z (-q)).2/\(aK z (-q)).2<=200000:=by
  intro z hz
  by_cases h0:z=0
  ·rw[h0,cZ];decide
  ·have h1:=mN (e:=-q) h0;have h2:=(jG (e:=-q) h0).2;have h3:=Fu (n:=z.natAbs) (by omega);have h4:tz z.natAbs<=100001:=by
    rcases Nat.lt_or_ge 100001 (tz z.natAbs)with h |h
    ·have:=dP.1 hz;have h5:2^100001<=2^tz z.natAbs:=fD;omega
    ·exact h
   omega
 have fl:=R.Gp (q:=q.toNat) (by omega);have P:=R.aCN q;have e:R.pz q=((2^q.toNat:Nat):Rat):=by
  have:=R.oA q.toNat;rwa [show((q.toNat:Nat):Int)=q by omega]at this
 rw[<-e]at fl;have z0:=R.dT (-q);have m1:=R.aH (bQY z0) (show 0<=R.pz q*R.pi-(R.pF q.toNat:Rat) by grind);have m2:=R.aH (bQY z0) (show 0<=(R.pF q.toNat:Rat)+1-R.pz q*R.pi by grind);have k:R.pz (-q)*(R.pz q*R.pi)=R.pi:=by rw[<-bXA,bYJ (R.pz (-q)),P];grind
 have q1:R.qz (pZ.qK q).1=(R.pF q.toNat:Rat)*R.pz (-q):=by
  show R.qz (aK _ _)=_;rw[mF,bWJ]
 have q2:R.qz (pZ.qK q).2=((R.pF q.toNat:Rat)+1)*R.pz (-q):=by
  show R.qz (aK _ _)=_;rw[mF,bXM,bWJ,show((1:Int):Rat)=1 by norm_cast]
 rw[q1,q2];exact⟨⟨fF i1 (by omega),fF i2 (by omega)⟩,⟨bMN (qL _ _) vK,bMN (qL _ _) aJP⟩,ex _ vK,ex _ aJP,by grind,by grind,by grind⟩
theorem aCW{a b:Int×Int}{m n:Nat}(ha:bl a.1.natAbs<=m)(hb:bl b.1.natAbs<=n)(h:m+n<=524288)(e1:-1048576<=a.2+b.2)(e2:a.2+b.2<=500000):dM.jX a b=true/\iL (dM.eY a b):=by
 have b0:=bMN (Le a.1.natAbs b.1.natAbs) (Nat.add_le_add ha hb);rw[<-Int.natAbs_mul]at b0;have i:fR (a.1*b.1) (a.2+b.2)=true:=fJ (by omega) (by omega);refine⟨?_,fF i (by omega)⟩;unfold dM.jX fit;rw[i,decide_eq_true (by omega)];rfl
theorem aPT{r:Int×Int}{p:Int}(h:aVS r)(hp:1<=p/\p<=66000):fO.aKI r (p+16)/\bCC (fO.zJ r (p+16)).1 (fO.zJ r (p+16)).2 (p-6) (p+18) (R.qz r*R.pi):=by
 obtain⟨Qe,hb,he,hq,hg⟩:=h;obtain⟨⟨u1,u2⟩,⟨b1,b2⟩,x1,x2,l1,l2,w⟩:=aIT (q:=p+16) (by omega);obtain⟨o1,n1⟩:=aCW hb b1 (by omega) (by omega) (by omega);obtain⟨o2,n2⟩:=aCW hb b2 (by omega) (by omega) (by omega);have sP:eG (mD (pZ.qK (p+16)).1 (pZ.qK (p+16)).2):=uG u1 u2 (kY.2 (by grind));have mo:SMul.aJA (r,r) (pZ.qK (p+16)):=⟨o1,o2,o1,o2⟩;obtain⟨g1,g2⟩:=aNT (a:=(r,r)) (b:=pZ.qK (p+16)) (x:=R.qz r) (y:=R.pi) bSF bSF l1 l2;have pL:iL (SMul.wJ (r,r) (pZ.qK (p+16)))/\(R.qz (SMul.wJ (r,r) (pZ.qK (p+16)))=R.qz r*R.qz (pZ.qK (p+16)).1\/R.qz (SMul.wJ (r,r) (pZ.qK (p+16)))=R.qz r*R.qz (pZ.qK (p+16)).2):=by
  unfold SMul.wJ;rw[<-Ae,<-Ae];have ls:∀{s t:Int×Int} {A B:Rat},(iL s/\(R.qz s=A\/R.qz s=B))->(iL t/\(R.qz t=A\/R.qz t=B))->iL (Bm s t)/\(R.qz (Bm s t)=A\/R.qz (Bm s t)=B):=by
   intro s t A B hs ht;rcases aDB s t with h |h <;> rw[h] <;> assumption
  exact ls (ls (ls ⟨n1,.inl rfl⟩ ⟨n2,.inr rfl⟩) ⟨n1,.inl rfl⟩) ⟨n2,.inr rfl⟩
 have pH:iL (SMul.wK (r,r) (pZ.qK (p+16)))/\(R.qz (SMul.wK (r,r) (pZ.qK (p+16)))=R.qz r*R.qz (pZ.qK (p+16)).1\/R.qz (SMul.wK (r,r) (pZ.qK (p+16)))=R.qz r*R.qz (pZ.qK (p+16)).2):=by
  unfold SMul.wK;rw[<-Ae,<-Ae];have ls:∀{s t:Int×Int} {A B:Rat},(iL s/\(R.qz s=A\/R.qz s=B))->(iL t/\(R.qz t=A\/R.qz t=B))->iL (Bn s t)/\(R.qz (Bn s t)=A\/R.qz (Bn s t)=B):=by
   intro s t A B hs ht;rcases aEI s t with h |h <;> rw[h] <;> assumption
  exact ls (ls (ls ⟨n1,.inl rfl⟩ ⟨n2,.inr rfl⟩) ⟨n1,.inl rfl⟩) ⟨n2,.inr rfl⟩
 have z0:=R.dT (-(p+16));have zs:R.pz (-(p+16))<=1/131072:=by
  have:=aNL (p:=p-7) (by omega);rwa [show -(p-7)-23=-(p+16) by omega]at this
 obtain⟨bGL,bGK⟩:=R.rJ;generalize hL:SMul.wJ (r,r) (pZ.qK (p+16))=L at *;generalize hH:SMul.wK (r,r) (pZ.qK (p+16))=H at *;generalize aRE:R.qz (pZ.qK (p+16)).1=P1 at *;generalize hP2:R.qz (pZ.qK (p+16)).2=P2 at *;generalize hz:R.pz (-(p+16))=z at *;have aJF:R.pz (-(p+16)-1)=z/2:=by
  have:=R.nD (-(p+16));rw[hz]at this;grind
 have a0:=R.aT (R.qz r);have bBY:∀(x y:Rat),0<=y->R.ab (x*y)=R.ab x*y:=fun x y hy=>by rw[R.gQ,R.bS hy]
 have p1:0<=P1:=by grind
 have p2:0<=P2:=by grind
 have bFJ:∀x:Rat,x=R.qz r*P1\/x=R.qz r*P2->R.ab x<=R.ab (R.qz r)*(16/5)/\R.ab x<=1:=by
  intro x hx;have m1:=R.aH a0 (show 0<=16/5-P1 by grind);have m2:=R.aH a0 (show 0<=16/5-P2 by grind);rcases hx with h |h
  ·rw[h,bBY _ _ p1];grind
  ·rw[h,bBY _ _ p2];grind
 obtain⟨bL,cL⟩:=bFJ _ pL.2;obtain⟨bH,cH⟩:=bFJ _ pH.2;have wd:R.qz H-R.qz L<=R.ab (R.qz r)*z:=by
  have t1:=R.Pz (R.qz r);have t2:=R.tH (R.qz r);have m1:=R.aH (show 0<=R.ab (R.qz r)-R.qz r by grind) (bQY z0);have m2:=R.aH (show 0<=R.ab (R.qz r)+R.qz r by grind) (bQY z0);have m3:=R.aH a0 (bQY z0);have e:R.qz r*P2=R.qz r*P1+R.qz r*z:=by
   rw[show P2=P1+z by grind];grind
  rcases pL.2 with h |h <;> rcases pH.2 with h' |h' <;> rw[h,h'] <;> grind
 have aRJ:(1:Rat)<=R.pz 1100:=by rw[<-R.fB];exact R.dO (by decide)
 obtain⟨i1,i2,bx⟩:=Wp (s:=(L,H)) (V:=R.qz r*R.pi) (m:=0) (n:=p+16+8) pL.1 pH.1 bSF (by dsimp only;grind) (by dsimp only;grind) wd (by omega) (by dsimp only;grind) (by dsimp only;grind);have eA:fO.zJ r (p+16)=(shD false L (p+16+8),shD true H (p+16+8)):=by
  unfold fO.zJ;rw[hL,hH]
 have e7:R.pz (1-(p+16+8))*128=z:=by
  have:=R.fZ (-(p+16)) (n:=7) (c:=128) (by norm_cast);rw[<-hz,<-this,show 1-(p+16+8)=-(p+16)-((7:Nat):Int) by omega]
 have aPS:R.ab (R.qz r*R.pi)=R.ab (R.qz r)*R.pi:=bBY _ _ (by grind);have bFU:R.pz (-1074)=2*R.pz (-1075):=by
  have:=R.nD (-1074);rw[show(-1074:Int)-1=-1075 by rfl]at this;grind
 have tr:=aMV (l:=(fO.zJ r (p+16)).1) (h:=(fO.zJ r (p+16)).2) (p:=p-6) (n:=p+18) (r:=R.qz r*R.pi) (by omega) (by omega) (by rw[eA];exact bx.pl) (by rw[eA];exact bx.ph) (by rw[eA];have:=bx.lo;dsimp only at this ⊢;grind) (by rw[eA];have:=bx.hi;dsimp only at this ⊢;grind)
  (by
   rw[eA,aPS,show -(p-6)-23=-(p+16)-1 by omega,aJF];have w2:=bx.wd;dsimp only at w2 ⊢;have m1:=R.aH (bQY z0) a0;have m2:=R.aH (bQY z0) (show 0<=R.ab (R.qz r)*(16/5)-R.ab (R.qz L) by grind);have m3:=R.aH (bQY z0) (show 0<=R.ab (R.qz r)*(16/5)-R.ab (R.qz H) by grind);have m4:=R.aH (R.aH (bQY z0) a0) (show 0<=R.pi-3 by grind);have e8:R.pz (1-(p+16+8))*(R.ab (R.qz L)+R.ab (R.qz H))*128=z*(R.ab (R.qz L)+R.ab (R.qz H)):=by rw[<-e7];grind
   grind)
  (by
   rw[aPS,bFU];have m1:=R.aH a0 (show 0<=R.pi-3 by grind);grind)
  (by
   rw[aPS];have m1:=R.aH a0 (show 0<=314160/100000-R.pi by grind);grind)
 refine⟨⟨sP,mo,by rw[hL];exact i1,by rw[hH];exact i2,?_,?_⟩,tr⟩
 ·have:=tr.so;rw[show p+18-2=p+16 by omega]at this;exact this
 ·have:=tr.co;rw[show p+18-2=p+16 by omega]at this;exact this
end M
namespace W
open Go AI M
namespace jO
def E:=mE [(20,iT.aG),(119,iX.aG)] 41 [] [(2,[0,4,7,8,10,15,16])] []
def aE:=bd f66
theorem aW:Nk E aE:=nk
def L2 a b c d e f g h i j k l m n o p q r s t:=nG E f66 aE 2 [bI a,bI b,dG 2 44 [cI c,eT d,cP e,cI f,eT g,cP h],dG 3 44 [cI i,eT j,cP k,cI l,eT m,cP n],dG 4 44 [cI o,sc (slice none 0 0),cP p,cI q,sc (slice none 0 0),cP r],bI s,bI t]
theorem start a b c d f g h i j k l m n o e:aF E f66 aE [D.s (sc (int i64 a)),D.s (sc (int i64 b)),D.agg [sc (bool c),ints u64 d,sc (int i64 f),sc (bool g),ints u64 h,sc (int i64 i)],D.agg [sc (bool j),ints u64 k,sc (int i64 l),sc (bool m),ints u64 n,sc (int i64 o)],D.s (sc (int i64 e))]=jO.L2 a e c d f g h i j k l m n o false 0 false 0 b 0:=eJ aW
theorem jY a b c d e f g h i j k l m n o p q r s t:L2 a b c d e f g h i j k l m n o p q r s t=letI F:=(i,j,k,l,m,n);letI O:=dv (gO F);letI N:=dv (gN F);letI C:=(c,d,e,f,g,h);letI H:=dv (gO C);letI G:=dv (gN C);letI B:=iX.Ot b G H N O;letI K:=aK B.fst B.snd;letI A:=iX.Oq b G H N O;letI I:=aK A.fst A.snd;aB (decide (t<s)) (aP (eG C) (aC (isNeg (-H.fst)) fun u=>aC (M6.dg (-H.fst).natAbs) fun v=>aC H.snd fun w=>aC (isNeg (-G.fst)) fun x=>aC (M6.dg (-G.fst).natAbs) fun y=>aC G.snd fun z=>jO.L2 a b i j k l m n u v w x y z o p q r s (i64.wrap (t+1)))) (aB (a==4) (some [D.agg [sc (bool c),ints u64 d,sc (int i64 e),sc (bool f),ints u64 g,sc (int i64 h)]]) (aB (a==5) (some [D.agg [sc (bool i),ints u64 j,sc (int i64 k),sc (bool l),ints u64 m,sc (int i64 n)]]) (aP (eG C/\eG F/\(1<=b/\b<=70000)/\gL.wG N O≠0/\(bl G.fst.natAbs<=262144/\bl H.fst.natAbs<=262144/\bl N.fst.natAbs<=262144/\bl O.fst.natAbs<=262144)/\fR A.fst A.snd=true/\fR B.fst B.snd=true) (aC (isNeg I.fst) fun aa=>aC (M6.dg I.fst.natAbs) fun ab=>aC I.snd fun ac=>aC (isNeg K.fst) fun ad=>aC (M6.dg K.fst.natAbs) fun ae=>aC K.snd fun af=>some [D.agg [sc (bool aa),ints u64 ab,sc (int i64 ac),sc (bool ad),ints u64 ae,sc (int i64 af)]])))):=lJ aW
def aLB (fn : Int) (n : Nat) (s c : (Int × Int) × (Int × Int)) (q : Int) : (Int × Int) × (Int × Int) :=
  bif fn == 4 then (VTurned.trn s c n).1 else bif fn == 5 then (VTurned.trn s c n).2 else
    (aK (iX.Oq q (VTurned.trn s c n).1.1 (VTurned.trn s c n).1.2 (VTurned.trn s c n).2.1 (VTurned.trn s c n).2.2).1 (iX.Oq q (VTurned.trn s c n).1.1 (VTurned.trn s c n).1.2 (VTurned.trn s c n).2.1 (VTurned.trn s c n).2.2).2,
     aK (iX.Ot q (VTurned.trn s c n).1.1 (VTurned.trn s c n).1.2 (VTurned.trn s c n).2.1 (VTurned.trn s c n).2.2).1 (iX.Ot q (VTurned.trn s c n).1.1 (VTurned.trn s c n).1.2 (VTurned.trn s c n).2.1 (VTurned.trn s c n).2.2).2)
def aIQ(q:Int)(s c:(Int×Int)×(Int×Int)):Prop:=gL.wG c.1 c.2≠0/\(bl s.1.1.natAbs<=262144/\bl s.2.1.natAbs<=262144/\bl c.1.1.natAbs<=262144/\bl c.2.1.natAbs<=262144)/\fR (iX.Oq q s.1 s.2 c.1 c.2).1 (iX.Oq q s.1 s.2 c.1 c.2).2=true/\fR (iX.Ot q s.1 s.2 c.1 c.2).1 (iX.Ot q s.1 s.2 c.1 c.2).2=true
abbrev eS(s:rY):(Int×Int)×(Int×Int):=(dv (gN s),dv (gO s))
def sp(fn k:Int)(s c:rY)(q:Int):Prop×List D:=((eG s/\eG c)/\(0<=k/\k<=3)/\(1<=q/\q<=70000)/\(fn≠4->fn≠5->aIQ q (VTurned.trn (eS s) (eS c) k.toNat).1 (VTurned.trn (eS s) (eS c) k.toNat).2),[yE (aLB fn k.toNat (eS s) (eS c) q).1 (aLB fn k.toNat (eS s) (eS c) q).2])
theorem L(fn q:Int)(hq:1<=q/\q<=70000):∀(d k:Nat) (s c:rY),k+d<=1000->eG s->eG c->(fn≠4->fn≠5->aIQ q (VTurned.trn (eS s) (eS c) d).1 (VTurned.trn (eS s) (eS c) d).2) ->
  L2 fn q s.1 s.2.1 s.2.2.1 s.2.2.2.1 s.2.2.2.2.1 s.2.2.2.2.2 c.1 c.2.1 c.2.2.1 c.2.2.2.1 c.2.2.2.2.1 c.2.2.2.2.2 false 0 false 0 ((k+d:Nat):Int) (k:Int)=some [yE (aLB fn d (eS s) (eS c) q).1 (aLB fn d (eS s) (eS c) q).2]
 |0,k,s,c,h,h1,h2,hk=>by
  rw[jY,aI];unfold aLB VTurned.trn;unfold VTurned.trn at hk;dsimp only at hk ⊢
  by_cases f4:fn=4
  ·rw[cC f4,f4];show _=some [yE (dv (gN s)) (dv (gO s))];rw[h1.yE]
  ·rw[bP f4,beq_eq_false_iff_ne.2 f4,cond_false]
   by_cases f5:fn=5
   ·rw[cC f5,f5];show _=some [yE (dv (gN c)) (dv (gO c))];rw[h2.yE]
   ·rw[bP f5,beq_eq_false_iff_ne.2 f5,cond_false];obtain⟨k0,k1,k2,k3⟩:=hk f4 f5;exact gP ⟨h1,h2,hq,k0,k1,k2,k3⟩
 |d+1,k,s,c,h,h1,h2,hk=>by
  have e:i64.wrap ((k:Int)+1)=((k+1:Nat):Int):=by rw[wrap_i64];omega
  rw[jY,aO,gP h1];simp only[aM,e];have en:eS (mD (iT.uM (dv (gO s))) (iT.uM (dv (gN s))))=(iT.uM (dv (gO s)),iT.uM (dv (gN s))):=by
   show(dv (gN (mD _ _)),dv (gO (mD _ _)))=_;rw[qB,qC]
  have r:=L fn q hq d (k+1) c (mD (iT.uM (dv (gO s))) (iT.uM (dv (gN s)))) (by omega) h2 (VTurned.aNS h1) (by rw[en];exact hk);rw[en,show k+1+d=k+(d+1) by omega]at r;exact r
theorem spec(fn k:Int)(s c:rY)(q:Int)(h:(sp fn k s c q).1):aF E f66 aE [(pN .i64).put fn,(pN .i64).put k,sZ.put s,sZ.put c,(pN .i64).put q]=some (sp fn k s c q).2:=by
 obtain⟨⟨h1,h2⟩,⟨q0,q1⟩,hq,hk⟩:=h;refine(start fn k s.1 s.2.1 s.2.2.1 s.2.2.2.1 s.2.2.2.2.1 s.2.2.2.2.2 c.1 c.2.1 c.2.2.1 c.2.2.2.1 c.2.2.2.2.1 c.2.2.2.2.2 q).trans ?_;obtain⟨n,rfl⟩:=bQT q0;have:=L fn q hq n 0 s c (by omega) h1 h2 hk;rw[bLT]at this;exact this
def aG:cX:=orc5 (pN .i64) (pN .i64) sZ sZ (pN .i64) sp
theorem ok:OK 66 aG:=(eB E aE (aA iT.ok (aA iX.ok aD)) func66).aXX rfl spec
end jO
namespace aQO
def E:=mE [(192,lZ.aG)] 22 [] [] []
def aE:=bd f150
theorem aW:Nk E aE:=nk
theorem start a d b c:aF E f150 aE [D.agg [sc (bool a),ints u64 d],D.s (sc (int i64 b)),D.s (sc (bool c))]=letI A:=wv (a,d)/(↑((2:Nat)^b.toNat):Int);aB c none (aP (jK (a,d)/\0<=b/\b<4611686018427387904) (some [D.agg [sc (bool (isNeg A)),ints u64 (M6.dg A.natAbs)]])):=eJ aW
def sp(x:Bool×List Int)(n:Int)(up:Bool):Prop×List D:=(jK x/\(0<=n/\n<4611686018427387904)/\up=false,[wD (wv x/((2^n.toNat:Nat):Int))])
theorem spec:qR E f150 aE vI (pN .i64) pB sp:=by
 rintro x n up ⟨h1,h2,rfl⟩;refine(start x.1 x.2 n false).trans ?_;rw[bF,gP ⟨h1,h2⟩];rfl
def aG:cX:=orc3 vI (pN .i64) pB sp
theorem ok:OK 150 aG:=(eB E aE (aA lZ.ok aD) func150).zA rfl spec
end aQO
namespace nP
def E:=mE [(45,jZ.aG),(46,kM.aG),(47,Bk.aG),(106,sA.aG),(150,aQO.aG),(50,iJ.aG)] 49 [46] [(5,[1,2,3,6]),(8,[1,2,3,6,8])] [5,8]
def aE:=bd f108
theorem aW:Nk E aE:=nk
def J5 a b c d e f g:=kV E f108 aE 5 [bI a,Lq b,dG 2 29 [cI c,eT d,cP e],dG 3 29 [cI f,sc (slice none 0 0),cP g]]
def J8 a b c d e f g h:=kV E f108 aE 8 [bI a,Lq b,dG 2 29 [cI c,eT d,cP e],dG 3 29 [cI f,sc (slice none 0 0),cP g],bI h]
theorem start a d e b c:aF E f108 aE [D.agg [sc (bool a),ints u64 d,sc (int i64 e)],D.s (sc (int i64 b)),D.s (sc (bool c))]=letI A:=aP (d.length<=1099511627776) (some [D.agg [sc (bool a),ints u64 d,sc (int i64 e)],D.s (sc (int i64 0))]);aP (aL (a,d,e)) (aP True (aB ((d.length:Int)==(0:Int)) A (aB (decide (b<=e)) A (nP.J5 b c a d e false 0)))):=eJ aW
theorem Is a b c d e f g:J5 a b c d e f g=letI A:=(↑(bl (M6.val d)):Int);aP (M6.cA d/\d.length<=1099511627776) (aB (decide (a<i64.wrap (e+i64.wrap (A+(1:Int))))) (nP.J8 a b c d e f g (i64.wrap (a-e))) (nP.J8 a b c d e f g (i64.wrap (A+(1:Int))))):=cJ aW
theorem vQ a b c d e f g h:J8 a b c d e f g h=letI C:=wv (c,d)/(↑((2:Nat)^h.toNat):Int);letI A:=(isNeg C,M6.dg C.natAbs);letI B:=bif fR (wv A) a then aK (wv A) a else((0:Int),(0:Int));aP (jK (c,d)/\(0<=h/\h<4611686018427387904)/\b=false) (aP (jK A/\(-9223372036854775808:Int)<=a/\a<9223372036854775808) (some [D.agg [sc (bool (isNeg B.fst)),ints u64 (M6.dg B.fst.natAbs),sc (int i64 B.snd)],D.s (sc (int i64 (bif fR (wv A) a then(0:Int)else(5:Int))))])):=cJ aW
def wU(p:Int×Int)(b:Int):Int×Int:=if p.1=0\/b<=p.2 then p else aK (p.1/((2^(b-p.2).toNat:Nat):Int)) b
def pT(p:Int×Int)(b:Int):Bool:=decide (p.1=0\/b<=p.2)||fR (p.1/((2^(b-p.2).toNat:Nat):Int)) b
def sp(x:dR)(b:Int)(up:Bool):Prop×List D:=(aL x/\(-4611686018427387904<=b/\b<4611686018427387904)/\up=false,dE (pT (dv x) b) (wU (dv x) b))
theorem spec:qR E f108 aE gZ (pN .i64) pB sp:=by
 rintro x k up ⟨h,hk,rfl⟩;refine(start x.1 x.2.1 x.2.2 k false).trans ?_;have hl:=h.len;have hd:=h.dD;have hr:=h.2.1;have hb:=h.Dh.bl;have hw:=h.Dh;have hn:=h.Fg;obtain⟨b,a,e⟩:=x
 try dsimp only at *
 unfold sp
 try dsimp only
 have hz:=M6.cO hn;have ha:=iO (b,a)
 try dsimp only at ha hz
 rw[gP h,gP trivial];have same:((dv (b,a,e)).1=0\/k<=(dv (b,a,e)).2)->dE (pT (dv (b,a,e)) k) (wU (dv (b,a,e)) k)=[D.agg [.sc (.bool b),.ints .u64 a,.sc (.int .i64 e)],.s (.sc (.int .i64 0))]:=by
  intro hc;unfold pT wU;rw[decide_eq_true hc,bRB,if_pos hc];show [M.dD (dv (b,a,e)),_]=_;rw[hd];rfl
 by_cases h0:a.length=0
 ·rw[cC,gP,same (.inl (by have:=hz.1 h0;show wv (b,a)=0;omega))]
 ·rw[bP]
  by_cases h1:k<=e
  ·rw[aO h1,gP,same (.inr h1)]
  ·have Yw:wv (b,a)≠0:=by have:M6.val a≠0:=fun h=>h0 (hz.2 h);omega
   have vU:¬((dv (b,a,e)).1=0\/k<=(dv (b,a,e)).2):=by
    rintro (hc |hc)
    ·exact Yw hc
    ·exact h1 hc
   have j8:∀n:Int,0<=n->n<4611686018427387904->wv (b,a)/((2^n.toNat:Nat):Int)=wv (b,a)/((2^(k-e).toNat:Nat):Int)->J8 k false b a e false 0 n=some (dE (pT (dv (b,a,e)) k) (wU (dv (b,a,e)) k)):=by
    intro n Ef Xb he;have hq:bl (wv (b,a)/((2^(k-e).toNat:Nat):Int)).natAbs<=524288:=bMN (gD (Ar (bOQ (by decide)))) (by rw[ha];exact hb);rw[vQ,gP ⟨hw,⟨Ef,Xb⟩,rfl⟩,he,gP ⟨mP hq,by omega,by omega⟩,rD];unfold pT wU;rw[decide_eq_false vU,bNS,if_neg vU];rfl
   rw[aI h1,Is,gP ⟨hn.iP,by omega⟩,wrap_i64 (n:=(bl (M6.val a):Int)+1) (by omega) (by omega),wrap_i64 (n:=e+((bl (M6.val a):Int)+1)) (by omega) (by omega),wrap_i64 (n:=k-e)]
   by_cases h2:k<e+((bl (M6.val a):Int)+1)
   ·rw[aO h2,j8 _ (by omega) (by omega) rfl]
   ·rw[aI h2,j8 _ (by omega) (by omega) (bKW (by rw[ha];omega) (by rw[ha];omega))]
def aG:cX:=orc3 gZ (pN .i64) pB sp
theorem ok:OK 108 aG:=(eB E aE (aA jZ.ok (aA kM.ok (aA Bk.ok (aA sA.ok (aA aQO.ok (aA iJ.ok aD)))))) func108).zA rfl spec
end nP
end W
namespace M
open Go AI W
theorem Zj{z e b:Int}(h:e<=b):nP.wU (aK z e) b=aK (z/p2 (b-e)) b:=by
 unfold nP.wU
 by_cases hz:z=0
 ·subst hz;rw[cZ,if_pos (.inl rfl),Int.zero_ediv,cZ]
 ·obtain⟨h1,h2⟩:=jG (e:=e) hz;have hn:(aK z e).1≠0:=fun h=>hz (dC.1 h)
  by_cases hb:b<=(aK z e).2
  ·rw[if_pos (.inr hb)];have g:=qZ (e:=e) hz (Int.le_refl e);rw[Int.sub_self,Wo,bYY]at g;have e1:p2 ((aK z e).2-e)=p2 ((aK z e).2-b)*p2 (b-e):=by rw[<-nF (by omega) (by omega)];congr 1;omega
   rw[e1,<-bSE]at g;have hp:=Ca (b-e);have:z/p2 (b-e)=(aK z e).1*p2 ((aK z e).2-b):=by
    generalize aK z e=p at *;rw[<-g,Int.mul_ediv_cancel _ (by omega)]
   rw[this,uL _ _ (by omega),show b+((aK z e).2-b)=(aK z e).2 by omega,tF zB Gt]
  ·rw[aY];have e1:p2 (b-e)=p2 (b-(aK z e).2)*p2 (tz z.natAbs:Int):=by rw[<-nF (by omega) (by omega)];congr 1;omega
   rw[e1];have hp:=Ca (tz z.natAbs:Int);have:z/(p2 (b-(aK z e).2)*p2 (tz z.natAbs:Int))=(aK z e).1/p2 (b-(aK z e).2):=by
    generalize aK z e=p at *;generalize p2 (tz z.natAbs:Int)=q at *;rw[h1,bZL _ _ hp]
   rw[this];rfl
theorem Tw{z e b:Int}(_:e<=b)(hb0:-1048576<=b)(hb:b+((bl (z/p2 (b-e)).natAbs:Nat):Int)<=1048577):nP.pT (aK z e) b=true:=by
 unfold nP.pT
 by_cases hc:(aK z e).1=0\/b<=(aK z e).2
 ·rw[decide_eq_true hc,bRB]
 ·have hz:z≠0:=fun h=>hc (.inl (dC.2 h))
  obtain⟨h1,h2⟩:=jG (e:=e) hz;have e1:p2 (b-e)=p2 (b-(aK z e).2)*p2 (tz z.natAbs:Int):=by rw[<-nF (by omega) (by omega)];congr 1;omega
  have hp:=Ca (tz z.natAbs:Int);have:z/p2 (b-e)=(aK z e).1/p2 (b-(aK z e).2):=by
   rw[e1];generalize aK z e=p at *;generalize p2 (tz z.natAbs:Int)=q at *;rw[h1,bZL _ _ hp]
  rw[this]at hb;rw[decide_eq_false hc,bNS];exact fJ hb0 hb
end M
namespace W
open Go AI M
namespace Rt
def E:=mE [(51,aGP.aG),(50,iJ.aG)] 15 [] [] []
def aE:=bd f57
theorem aW:Nk E aE:=nk
theorem start a b:aF E f57 aE [D.s (sc (int i64 a)),D.s (sc (int i64 b))]=letI B:=(isNeg a,M6.dg a.natAbs);letI A:=bif fR (wv B) b then aK (wv B) b else((0:Int),(0:Int));aP ((-9223372036854775808:Int)<=a/\a<9223372036854775808) (aP (jK B/\(-9223372036854775808:Int)<=b/\b<9223372036854775808) (some [D.agg [sc (bool (isNeg A.fst)),ints u64 (M6.dg A.fst.natAbs),sc (int i64 A.snd)]])):=eJ aW
def sp(m e:Int):Prop×List D:=((-9223372036854775808<=m/\m<9223372036854775808)/\-9223372036854775808<=e/\e<9223372036854775808,[dD (bif fR m e then aK m e else(0,0))])
theorem spec:fK E f57 aE (pN .i64) (pN .i64) sp:=by
 rintro m e ⟨h1,h2⟩;refine(start m e).trans ?_;have hb:bl m.natAbs<=64:=dP.2 (by omega);rw[gP h1,gP ⟨mP (by omega),h2⟩,rD];rfl
def aG:cX:=orc2 (pN .i64) (pN .i64) sp
theorem ok:OK 57 aG:=(eB E aE (aA aGP.ok (aA iJ.ok aD)) func57).lE rfl spec
end Rt
namespace Ok
def E:=mE [(108,nP.aG)] 11 [8] [] []
def aE:=bd f58
theorem aW:Nk E aE:=nk
theorem start a c d b:aF E f58 aE [D.agg [sc (bool a),ints u64 c,sc (int i64 d)],D.s (sc (int i64 b))]=letI B:=dv (a,c,d);letI A:=bif nP.pT B b then nP.wU B b else((0:Int),(0:Int));aP (aL (a,c,d)/\((-4611686018427387904:Int)<=b/\b<4611686018427387904)/\false=false) (some [D.agg [sc (bool (isNeg A.fst)),ints u64 (M6.dg A.fst.natAbs),sc (int i64 A.snd)],D.s (sc (int i64 (bif nP.pT B b then(0:Int)else(5:Int))))]):=eJ aW
def sp(x:dR)(b:Int):Prop×List D:=(aL x/\-4611686018427387904<=b/\b<4611686018427387904,dE (nP.pT (dv x) b) (nP.wU (dv x) b))
theorem spec:fK E f58 aE gZ (pN .i64) sp:=fun x b h =>
 (start x.1 x.2.1 x.2.2 b).trans (gP ⟨h.1,h.2,rfl⟩)
def aG:cX:=orc2 gZ (pN .i64) sp
theorem ok:OK 58 aG:=(eB E aE (aA nP.ok aD) func58).lE rfl spec
end Ok
namespace Rs
def E:=mE [(51,aGP.aG),(109,aKT.aG),(110,zO.aG)] 19 [15] [] []
def aE:=bd f60
theorem aW:Nk E aE:=nk
theorem start a b:aF E f60 aE [D.agg [sc (bool a),ints u64 b]]=letI B:=(isNeg 4,M6.dg 4);letI A:=(isNeg (wv (a,b)%wv B),M6.dg (wv (a,b)%wv B).natAbs);aP ((-9223372036854775808:Int)<=(4:Int)/\(4:Int)<(9223372036854775808:Int)) (aP (jK (a,b)/\jK B/\isNeg 4=false/\1<=(M6.dg 4).length) (aP (jK A) (some [D.s (sc (int i64 (bif zO.uH (wv A)then wv A else(0:Int))))]))):=eJ aW
def sp(x:Bool×List Int):Prop×List D:=(jK x,[.s (.sc (.int .i64 (wv x%4)))])
theorem spec:gI E f60 aE vI sp:=by
 intro x h;have h:jK x:=h;have e4:wv (isNeg 4,M6.dg 4)=4:=rD 4;have w4:jK (isNeg 4,M6.dg 4):=mP (z:=4) (bMN (dP.2 (show(4:Int).natAbs<2^3 by decide)) (by omega));have l4:(M6.dg 4).length=1:=by
  have h1:=M6.cQ (n:=4) (k:=1) (by decide);have h2:(M6.dg 4).length≠0:=fun h=>by have:=M6.fU.1 h;omega
  omega
 have hr:0<=wv x%4/\wv x%4<4:=by omega
 refine(start x.1 x.2).trans ?_;rw[gP,gP ⟨h,w4,rfl,Nat.le_of_eq l4.symm⟩,e4,rD];show aP _ _=some [D.s (.sc (.int .i64 (wv x%4)))];generalize wv (x.1,x.2)%4=r at *;rw[gP (mP (bMN (dP.2 (show r.natAbs<2^3 by omega)) (by omega)))];have:zO.uH r=true:=by unfold zO.uH;rw[decide_eq_true (by omega),decide_eq_true (by omega)];rfl
 rw[this];rfl
def aG:cX:=orc1 vI sp
theorem ok:OK 60 aG:=(eB E aE (aA aGP.ok (aA aKT.ok (aA zO.ok aD))) func60).nA rfl spec
end Rs
namespace aJ
def E:=mE [(12,bM.aG),(56,mI.aG),(13,bJ.aG),(57,Rt.aG),(58,Ok.aG),(59,Vf.aG),(48,Il.aG),(60,Rs.aG)] 71 [22,68] [] []
def aE:=bd f18
theorem aW:Nk E aE:=nk
theorem start a:aF E f18 aE [D.s (sc (int u64 a))]=letI N:=sc (int i64 0);letI I:=bif fR 1 (-1:Int)then aK 1 (-1:Int)else((0:Int),(0:Int));letI B:=bif dZ.gA 64 a&&aZ.fA 64 a then aK (bM.lA 64 a) (bM.lB 64 a)else((0:Int),(0:Int));aP (((64:Int)=(32:Int)\/(64:Int)=(64:Int))/\0<=a/\a<18446744073709551616) (aC (isNeg B.fst) fun b=>aC (M6.dg B.fst.natAbs) fun c=>aC B.snd fun d=>letI O:=dv (b,c,d);letI H:=bif mI.Jg O 1 then mI.aIK O 1 else((0:Int),(0:Int));aC (bif dZ.gA 64 a then bif aZ.fA 64 a then(0:Int)else(6:Int)else(2:Int)) fun e=>aB (e !=0) (some [D.s N,D.agg [sc (bool false),sc (slice none 0 0),sc (int i64 0)],D.s (sc (int i64 e))]) (aP (aL (b,c,d)/\(-9223372036854775808:Int)<=(1:Int)/\(1:Int)<(9223372036854775808:Int)) (aC (isNeg H.fst) fun f=>aC (M6.dg H.fst.natAbs) fun g=>aC H.snd fun h=>aP (((-9223372036854775808:Int)<=(1:Int)/\(1:Int)<(9223372036854775808:Int))/\(-9223372036854775808:Int)<=(-1:Int)/\(-1:Int)<(9223372036854775808:Int)) (aC (isNeg I.fst) fun i=>aC (M6.dg I.fst.natAbs) fun j=>aC I.snd fun k=>letI C:=bif bJ.iV (dv (f,g,h)) (dv (i,j,k))then bJ.mL (dv (f,g,h)) (dv (i,j,k))else((0:Int),(0:Int));aP (aL (f,g,h)/\aL (i,j,k)) (aC (isNeg C.fst) fun l=>aC (M6.dg C.fst.natAbs) fun m=>aC C.snd fun n=>letI G:=bif nP.pT (dv (l,m,n)) 0 then nP.wU (dv (l,m,n)) 0 else((0:Int),(0:Int));aP (aL (l,m,n)/\(-4611686018427387904:Int)<=(0:Int)/\(0:Int)<(4611686018427387904:Int)) (aC (isNeg G.fst) fun o=>aC (M6.dg G.fst.natAbs) fun p=>aC G.snd fun q=>letI K:=bif fit (M6.val p*(2:Nat)^q.toNat)then wv (o,p)*(↑((2:Nat)^q.toNat):Int)else(0:Int);letI F:=bif mI.Jg (dv (o,p,q)) (-1:Int)then mI.aIK (dv (o,p,q)) (-1:Int)else((0:Int),(0:Int));aP (aL (o,p,q)/\(-9223372036854775808:Int)<=(-1:Int)/\(-1:Int)<(9223372036854775808:Int)) (aC (isNeg F.fst) fun r=>aC (M6.dg F.fst.natAbs) fun s=>aC F.snd fun t=>letI P:=dv (r,s,t);letI A:=bif bJ.iV O (-P.fst,P.snd)then bJ.mL O (-P.fst,P.snd)else((0:Int),(0:Int));aP (aL (b,c,d)/\aL (r,s,t)) (aC (isNeg A.fst) fun u=>aC (M6.dg A.fst.natAbs) fun v=>aC A.snd fun w=>aB (decide (q<2)) (aP (jK (o,p)/\0<=q/\q<4611686018427387904) (aC (isNeg K) fun x=>aC (M6.dg K.natAbs) fun y=>aP (jK (x,y)) (aC (wv (x,y)%4) fun z=>some [D.s (sc (int i64 z)),D.agg [sc (bool u),ints u64 v,sc (int i64 w)],D.s N]))) (some [D.s N,D.agg [sc (bool u),ints u64 v,sc (int i64 w)],D.s N]))))))))):=eJ aW
def iW(p:Int×Int):Int:=if 0<=p.2 then p.1*p2 (p.2+1)else(p.1*4+p2 (-p.2))/p2 (1-p.2)
def Ac(p:Int×Int):Int:=if 0<=p.2 then 0 else p.1*2-iW p*p2 (-p.2)
def oW(p:Int×Int):Int×Int:=aK (Ac p) (p.2-1)
def fN(a:Int):Int×Int:=aK (bM.lA 64 a) (bM.lB 64 a)
def sp(a:Int):Prop×List D:=(0<=a/\a<18446744073709551616,[.s (.sc (.int .i64 (bif aZ.fA 64 a then iW (fN a)%4 else 0))),dD (bif aZ.fA 64 a then oW (fN a)else(0,0)),.s (.sc (.int .i64 (bif aZ.fA 64 a then 0 else 6)))])
theorem cK{a:Int}(_:0<=a)(hf:aZ.fA 64 a=true):(bM.lA 64 a).natAbs<2^53/\-1074<=bM.lB 64 a/\bM.lB 64 a<=971:=by
 have Ef:0<=a%dJ.dV (aN.gW 64):=by rw[show dJ.dV (aN.gW 64)=9223372036854775808 from rfl];omega
 have pS:a%dJ.dV (aN.gW 64)<kT.mK (aN.gW 64):=of_decide_eq_true hf;have hm:=bM.Tf aN.vG Ef;have hx:=bM.Tz aN.vG Ef pS;refine⟨?_,hx.1,?_⟩
 ·unfold bM.lA;rw[jR];have:=hm.2;rw[show aN.gW 64=(64,53,-1074,9221120237041090561)from rfl]at *;omega
 ·unfold bM.lB iF.Ei;rw[show kT.mK (aN.gW 64)=9218868437227405312 from rfl]at pS;rw[show cV.lS (aN.gW 64)=4503599627370496 from rfl];rw[show(aN.gW 64).2.2.1=-1074 from rfl];split <;> omega
theorem Ce{a:Int}(h0:0<=a)(hf:aZ.fA 64 a=true):iL (fN a)/\(fN a).1.natAbs<2^53/\-1074<=(fN a).2/\(fN a).2<=1024:=by
 obtain⟨h1,h2,h3⟩:=cK h0 hf;have hb:bl (bM.lA 64 a).natAbs<=53:=dP.2 h1;have ha:=Ai (bM.lA 64 a) (bM.lB 64 a);refine⟨fF (fJ (by omega) (by omega)) (by omega),?_,?_⟩
 ·unfold fN;omega
 ·unfold fN
  by_cases hz:bM.lA 64 a=0
  ·rw[hz,cZ];exact⟨by show(-1074:Int)<=0;omega,by show(0:Int)<=1024;omega⟩
  ·have:=(jG (e:=bM.lB 64 a) hz).2;have:=zS (n:=(bM.lA 64 a).natAbs) (by omega);omega
theorem spec:aGG E f18 aE (pN .u64) sp:=by
 rintro a ⟨h0,h1⟩;have hp:dZ.gA 64 a=true:=rfl;unfold sp
 try dsimp only
 cases hf:aZ.fA 64 a with
 |false =>
  have s:=start a;rw[gP ⟨.inr rfl,h0,h1⟩,hp,hf,vl,vl,vl,vl,pW (by decide)]at s;refine⟨_,s,.cons (vV.refl _) (.cons ?_ (fT.refl _))⟩;unfold dD;rw[cond_false,show((0,0):Int×Int).1.natAbs=0 from rfl,M6.bQ];exact vV.agg (.cons (yJ.refl _) (.cons (yJ.nil _) (uB.refl _)))
 |true =>
  refine⟨_,(start a).trans ((gP ⟨.inr rfl,h0,h1⟩).trans ?_),fT.refl _⟩
  try dsimp only[cond_true]
  have e1:(bif dZ.gA 64 a&&aZ.fA 64 a then aK (bM.lA 64 a) (bM.lB 64 a)else((0:Int),(0:Int)))=fN a:=by rw[hp,hf];rfl
  have bLG:(bif dZ.gA 64 a then bif aZ.fA 64 a then(0:Int)else 6 else 2)=0:=by rw[hp,hf];rfl
  rw[e1,bLG,nT,vl,eN rfl];obtain⟨Qe,hm,aHO,Xe⟩:=Ce h0 hf;generalize fN a=p at *;obtain⟨m,e⟩:=p;have hs:aK m e=(m,e):=Qe.same
  try dsimp only at hm aHO Xe
  have bm:bl m.natAbs<=53:=dP.2 hm;rw[gP ⟨cF Qe,by omega,by omega⟩,cU];have bK:bl (iW (m,e)).natAbs<=1100:=by
   unfold iW
   try dsimp only
   split
   ·have:=wY (n:=e+1) (k:=1025) bm (by omega);omega
   ·refine aPQ ?_ _;have b1:=wY (z:=m) (n:=2) (k:=2) bm (by omega);have b2:=wY (z:=1) (n:=-e) (k:=1074) wZ (by omega);rw[Int.one_mul]at b2;exact bMN (Uj (n:=1075) (bMN b1 (by omega)) b2) (by omega)
  have hR:oW (m,e)=aK (if 0<=e then 0 else m*2-iW (m,e)*p2 (-e)) (e-1):=rfl;have hK:iW (m,e)=if 0<=e then m*p2 (e+1)else(m*4+p2 (-e))/p2 (1-e):=rfl
  generalize iW (m,e)=K at *;generalize oW (m,e)=R at *;rw[<-hs];have e2:(bif mI.Jg (aK m e) 1 then mI.aIK (aK m e) 1 else((0:Int),(0:Int)))=aK m (e+1):=by
   rw[Pj (by omega) (by omega),Wd];rfl
  have e3:(bif fR 1 (-1)then aK 1 (-1)else((0:Int),(0:Int)))=aK 1 (-1):=by
   rw[fJ (by omega) (by have:=wZ;omega)];rfl
  have bGN:iL (aK m (e+1)):=fF (fJ (by omega) (by omega)) (by omega);have p3:iL (aK 1 (-1)):=fF (fJ (by omega) (by have:=wZ;omega)) (by have:=wZ;omega);rw[e2,e3,nT,gP ⟨by omega,by omega⟩,nT,gP ⟨cF bGN,cF p3⟩,cU,cU];obtain⟨S,G,hS,hG0,bBF,Kt,aJQ,aQY⟩:∃S G:Int,bl S.natAbs<=1100/\-1100<=G/\G<=-1/\bJ.iV (aK m (e+1)) (aK 1 (-1))=true/\bJ.mL (aK m (e+1)) (aK 1 (-1))=aK S G/\S/p2 (0-G)=K:=by
   by_cases hc:0<=e
   ·have b1:=wY (z:=m) (n:=e+1 - -1) (k:=1026) bm (by omega);have b2:=wY (z:=1) (n:=-1 - -1) (k:=0) wZ (by omega);refine⟨_,-1,bMN (Uj (n:=1080) (bMN b1 (by omega)) (bMN b2 (by omega))) (by omega),by omega,by omega,yB (G:=-1) (by omega) (by omega) (by omega) (by omega) (by omega) (by omega),Ba (by omega) (by omega),?_⟩;rw[hK,if_pos hc,show e+1 - -1=e+1+1 by omega,nF (by omega) (by omega),show p2 (0 - -1)=2 from rfl,show p2 (-1 - -1)=1 from rfl,aCP];generalize p2 (e+1)=q;rw[<-bSE];omega
   ·have b1:=wY (z:=m) (n:=e+1-(e-1)) (k:=2) bm (by omega);have b2:=wY (z:=1) (n:=-1-(e-1)) (k:=1074) wZ (by omega);refine⟨_,e-1,bMN (Uj (n:=1080) (bMN b1 (by omega)) (bMN b2 (by omega))) (by omega),by omega,by omega,yB (G:=e-1) (by omega) (by omega) (by omega) (by omega) (by omega) (by omega),Ba (by omega) (by omega),?_⟩;rw[hK,if_neg hc,show e+1-(e-1)=2 by omega,show -1-(e-1)=-e by omega,Int.one_mul,show p2 2=4 from rfl,show 0-(e-1)=1-e by omega]
  have e4:(bif bJ.iV (aK m (e+1)) (aK 1 (-1))then bJ.mL (aK m (e+1)) (aK 1 (-1))else((0:Int),(0:Int)))=aK S G:=by rw[Kt,aJQ];rfl
  have p4:iL (aK S G):=fF (fJ (by omega) (by omega)) (by omega);have e5:(bif nP.pT (aK S G) 0 then nP.wU (aK S G) 0 else((0:Int),(0:Int)))=aK K 0:=by
   rw[Tw (by omega) (by omega) (by rw[aQY];omega),Zj (by omega),aQY];rfl
  have p5:iL (aK K 0):=fF (fJ (by omega) (by omega)) (by omega);rw[e4,nT,gP ⟨cF p4,by omega,by omega⟩,cU,e5,nT,gP ⟨cF p5,by omega,by omega⟩,cU];have e6:(bif mI.Jg (aK K 0) (-1)then mI.aIK (aK K 0) (-1)else((0:Int),(0:Int)))=aK K (-1):=by
   rw[Pj (by omega) (by omega),Wd];rfl
  have p6:iL (aK K (-1)):=fF (fJ (by omega) (by omega)) (by omega);rw[e6,nT,gP ⟨cF (hs▸Qe),cF p6⟩,cU,<-Pw];have e7:(bif bJ.iV (aK m e) (aK (-K) (-1))then bJ.mL (aK m e) (aK (-K) (-1))else((0:Int),(0:Int)))=R:=by
   rw[hR]
   by_cases hc:0<=e
   ·have b1:=wY (z:=m) (n:=e - -1) (k:=1026) bm (by omega);have b2:=wY (z:=-K) (n:=-1 - -1) (k:=0) (Ns bK) (by omega);rw[yB (G:=-1) (by omega) (by omega) (by omega) (by omega) (by omega) (by omega),Ba (G:=-1) (by omega) (by omega),if_pos hc,hK,if_pos hc,show e - -1=e+1 by omega,show p2 (-1 - -1)=1 from rfl,bYY];rw[show m*p2 (e+1)+-(m*p2 (e+1))=0 by omega,cZ,cZ];rfl
   ·have b1:=wY (z:=m) (n:=e-(e-1)) (k:=1) bm (by omega);have b2:=wY (z:=-K) (n:=-1-(e-1)) (k:=1074) (Ns bK) (by omega);rw[yB (G:=e-1) (by omega) (by omega) (by omega) (by omega) (by omega) (by omega),Ba (G:=e-1) (by omega) (by omega),if_neg hc,show e-(e-1)=1 by omega,show -1-(e-1)=-e by omega,aCP,Int.neg_mul,<-Int.sub_eq_add_neg];rfl
  rw[e7,nT];have gK:=Tc (z:=K) (e:=0) (G:=0) (by omega);rw[Int.sub_self,Int.sub_zero,Wo,bYY]at gK;have bIQ:0<=(aK K 0).2:=by
   by_cases hz:K=0
   ·rw[hz,cZ];exact Int.le_refl 0
   ·exact mN hz
  have bHL:M6.val (M6.dg (aK K 0).1.natAbs)=(aK K 0).1.natAbs:=M6.bN _;have Jl:fit (M6.val (M6.dg (aK K 0).1.natAbs)*2^(aK K 0).2.toNat)=true:=by
   rw[bHL,<-Us,gK];exact decide_eq_true (by omega)
  by_cases hc:(aK K 0).2<2
  ·rw[aO hc,gP ⟨(cF p5).Dh,by omega,by omega⟩,rD,Jl];have e8:(bif true then(aK K 0).1*((2^(aK K 0).2.toNat:Nat):Int)else(0:Int))=K:=gK;rw[e8,vl,vl,gP (mP (by omega)),rD,vl];rfl
  ·rw[aI hc];have:K%4=0:=by
    have e9:p2 (aK K 0).2=p2 ((aK K 0).2-2)*4:=by
     have:=nF (m:=(aK K 0).2-2) (n:=2) (by omega) (by omega);rwa [show(aK K 0).2-2+2=(aK K 0).2 by omega]at this
    rw[e9,<-bSE]at gK;generalize (aK K 0).1*p2 ((aK K 0).2-2)=q at *;omega
   rw[this];rfl
def aG:cX:=orc1 (pN .u64) sp
theorem ok:OK 18 aG:=(eB E aE (aA bM.ok (aA mI.ok (aA bJ.ok (aA Rt.ok (aA Ok.ok (aA Vf.ok (aA Il.ok (aA Rs.ok aD)))))))) func18).aRQ rfl spec
end aJ
end W
namespace M
open Go AI W
def tv(fn k:Int)(s c:Rat):Rat:=if fn=4 then R.rs k s c else if fn=5 then R.rc k s c else R.rs k s c/R.rc k s c
def tS(r:Int×Int)(p:Int):(Int×Int)×(Int×Int):=gS (fO.zJ r (p+16)).1 (fO.zJ r (p+16)).2 (p+18)
def tC(r:Int×Int)(p:Int):(Int×Int)×(Int×Int):=gC (fO.zJ r (p+16)).1 (fO.zJ r (p+16)).2 (p+18)
def tE(fn k:Int)(r:Int×Int)(p:Int):(Int×Int)×(Int×Int):=jO.aLB fn (k%4).toNat (tS r p) (tC r p) (p+16)
def tO(fn k:Int)(r:Int×Int)(p:Int):(Int×Int)×(Int×Int):=(shD false (tE fn k r p).1 (p+20),shD true (tE fn k r p).2 (p+20))
structure bFO(fn k:Int)(r:Int×Int)(p:Int):Prop where
 ci:fO.aKI r (p+16)
 sS:eG (mD (tS r p).1 (tS r p).2)
 sC:eG (mD (tC r p).1 (tC r p).2)
 qu:jO.aIQ (p+16) (VTurned.trn (tS r p) (tC r p) (k%4).toNat).1 (VTurned.trn (tS r p) (tC r p) (k%4).toNat).2
 re:eG (mD (tE fn k r p).1 (tE fn k r p).2)
 s1:vW false (tE fn k r p).1 (p+20)=true
 s2:vW true (tE fn k r p).2 (p+20)=true
 v0:tv fn k (R.sn (R.qz r*R.pi)) (R.cs (R.qz r*R.pi))≠0
 vl:R.pz (-1075)<=R.ab (tv fn k (R.sn (R.qz r*R.pi)) (R.cs (R.qz r*R.pi)))
 vh:R.ab (tv fn k (R.sn (R.qz r*R.pi)) (R.cs (R.qz r*R.pi)))<=R.pz 1075
 bx:Bx (tO fn k r p) (tv fn k (R.sn (R.qz r*R.pi)) (R.cs (R.qz r*R.pi))) (R.pz (-p-1)*R.ab (tv fn k (R.sn (R.qz r*R.pi)) (R.cs (R.qz r*R.pi)))) (mg (p-6))
 b45:fn=4\/fn=5->Bx (tO fn k r p) (tv fn k (R.sn (R.qz r*R.pi)) (R.cs (R.qz r*R.pi))) (R.pz (-p-5)*R.ab (tv fn k (R.sn (R.qz r*R.pi)) (R.cs (R.qz r*R.pi)))) (mg (p-6))
 bits:(bl (tO fn k r p).1.1.natAbs:Int)<=p+21/\(bl (tO fn k r p).2.1.natAbs:Int)<=p+21
 bBP:-p-1200<=(tO fn k r p).1.2/\-p-1200<=(tO fn k r p).2.2
 on:fn=4\/fn=5->On (tO fn k r p)
theorem Xy{s:(Int×Int)×(Int×Int)}{V ρ m:Rat}(h:Bx s V (ρ*R.ab V) m)(r1:ρ<=1/4)(V0:V≠0) :
  3/4*R.ab V<=R.ab (R.qz s.1)/\R.ab (R.qz s.1)<=5/4*R.ab V/\3/4*R.ab V<=R.ab (R.qz s.2)/\R.ab (R.qz s.2)<=5/4*R.ab V/\0<R.ab V:=by
 obtain⟨_,_,_,_,m0,lo,hi,wd⟩:=h;have a0:0<R.ab V:=by
  unfold R.ab;split <;> grind
 have k:=R.aH (bQY a0) (show 0<=1/4-ρ by grind);generalize hρ:ρ*R.ab V=W at *
 by_cases c:0<V
 ·have e:R.ab V=V:=R.bS (bQY c);rw[e]at a0 k hρ;rw[e];rw[R.bS (show 0<=R.qz s.1 by grind),R.bS (show 0<=R.qz s.2 by grind)];exact⟨by grind,by grind,by grind,by grind,c⟩
 ·have e:R.ab V=-V:=by unfold R.ab;rw[if_neg (by grind)]
  rw[e]at a0 k hρ;rw[e];rw[<-R.gT,R.bS (show 0<=-R.qz s.1 by grind),<-R.gT,R.bS (show 0<=-R.qz s.2 by grind)];exact⟨by grind,by grind,by grind,by grind,by grind⟩
theorem Sm{fn k:Int}{r:Int×Int}{p:Int}(h:aVS r)(hp:1<=p/\p<=66000)(hf:fn=4\/fn=5\/fn=6):bFO fn k r p:=by
 obtain⟨ci,tr⟩:=aPT h hp;obtain⟨_,_,bs,bc,os,oc⟩:=tr;obtain⟨ρ,hρ⟩:∃ρ,ρ=R.qz r*R.pi:=⟨_,rfl⟩;obtain⟨bGL,bGK⟩:=R.rJ;have ar:R.ab ρ=R.ab (R.qz r)*R.pi:=by rw[hρ,R.gQ,R.bS (show 0<=R.pi by grind)]
 have a0:=R.aT (R.qz r);have rg:3*R.pz (-1075)<=R.ab ρ:=by
  rw[ar];have:=h.g;have:=R.aH a0 (show 0<=R.pi-3 by grind);grind
 have rn:R.ab ρ<=79/100:=by
  rw[ar];have:=h.q;have:=R.aH a0 (show 0<=314160/100000-R.pi by grind);grind
 rw[<-hρ]at bs bc;rw[show gS (fO.zJ r (p+16)).1 (fO.zJ r (p+16)).2 (p+18)=tS r p from rfl]at bs os;rw[show gC (fO.zJ r (p+16)).1 (fO.zJ r (p+16)).2 (p+18)=tC r p from rfl]at bc oc;rw[show -(p-6)-12=-p-6 by omega]at bs bc;have bGM:=R.dT (-1075);have l75:R.pz (-1075)<=1/4:=by
  have:=R.dO (show(-1075:Int)<=-2 by omega);have e:=R.fZ 0 (n:=2) (c:=4) (by norm_cast);rw[R.fB,show(0:Int)-((2:Nat):Int)=-2 by rfl]at e;grind
 obtain⟨c1,c2⟩:=R.Xt (r:=ρ) (by grind);have s0:R.pz (-1075)<=R.ab (R.sn ρ)/\R.ab (R.sn ρ)<=1:=by
  rw[<-R.aNC (by grind)];obtain⟨a,b⟩:=R.aCB (R.aT ρ) (by grind);constructor <;> grind
 have s1:R.pz (-1075)<=R.ab (R.cs ρ)/\R.ab (R.cs ρ)<=1:=by
  rw[R.bS (show 0<=R.cs ρ by grind)];constructor <;> grind
 obtain⟨S,hS⟩:∃S,S=R.rs k (R.sn ρ) (R.cs ρ):=⟨_,rfl⟩;obtain⟨C,hC⟩:∃C,C=R.rc k (R.sn ρ) (R.cs ρ):=⟨_,rfl⟩;have sS:R.pz (-1075)<=R.ab S/\R.ab S<=1:=by
  rw[hS,aLG];split <;> assumption
 have sC:R.pz (-1075)<=R.ab C/\R.ab C<=1:=by
  rw[hC,aLH];split <;> assumption
 have aCV:∀v:Rat,R.pz (-1075)<=R.ab v->v≠0:=fun v hv hz=>by rw[hz,R.bS bSF]at hv;grind
 have S0:=aCV _ sS.1;have C0:=aCV _ sC.1;obtain⟨z,hz⟩:∃z,z=R.pz (-p-20):=⟨_,rfl⟩;have z0:=R.dT (-p-20);rw[<-hz]at z0;have pw:∀(a:Int) (n:Nat) (c:Rat),a=-p-20+(n:Int)->((2^n:Nat):Rat)=c->R.pz a=c*z:=fun a n c ha hc=>by
  rw[ha,R.dU,hc,hz];grind
 have e6:=pw (-p-6) 14 16384 (by omega) (by norm_cast);have e5:=pw (-p-5) 15 32768 (by omega) (by norm_cast);have e1:=pw (-p-1) 19 524288 (by omega) (by norm_cast);have aRH:=pw (2-(p+16)) 6 64 (by omega) (by norm_cast);have bFG:=pw (1-(p+20)) 1 2 (by omega) (by norm_cast);have zs:z<=1/2097152:=by
  have:=R.dO (show -p-20<=-21 by omega);have e:=R.fZ 0 (n:=21) (c:=2097152) (by norm_cast);rw[R.fB,show(0:Int)-((21:Nat):Int)=-21 by rfl]at e;grind
 obtain⟨b1,b2⟩:=Bx.trn bs bc (k:=k);rw[<-hS]at b1;rw[<-hC]at b2;have aYB:=On.trn os oc (k%4).toNat;obtain⟨t,ht⟩:∃t,t=VTurned.trn (tS r p) (tC r p) (k%4).toNat:=⟨_,rfl⟩;rw[<-ht]at b1 b2 aYB;have b1:Bx t.1 S (R.pz (-p-6)*R.ab S) (mg (p-6)):=by
  refine Ht b1 ?_;rw[hS,aLG];split <;> exact bSF
 have b2:Bx t.2 C (R.pz (-p-6)*R.ab C) (mg (p-6)):=by
  refine Ht b2 ?_;rw[hC,aLH];split <;> exact bSF
 rw[e6]at b1 b2;have n1:=aFX b1 (by grind) S0;have n2:=aFX b2 (by grind) C0;have h1300:R.pz (-1300)<=R.pz (-1075)/2:=by
  have:=R.nD (-1075);have:=R.dO (show(-1300:Int)<=-1075-1 by omega);grind
 have z1:Ru t.1.1:=Mc b1.bl (Dm (by grind)) (by grind) (by grind);have z2:Ru t.1.2:=Mc b1.bh (Dm (by grind)) (by grind) (by grind);have z3:Ru t.2.1:=Mc b2.bl (Dm (by grind)) (by grind) (by grind);have z4:Ru t.2.2:=Mc b2.bh (Dm (by grind)) (by grind) (by grind);have bET:S/C*C=S:=by grind
 obtain⟨q0,q1,q2,bq⟩:=aNI (p:=p+16) b1 b2 S0 C0 sC.2 (by grind) (by grind) bET (by omega) z1 z2 z3 z4;rw[aRH]at bq;have aV:R.ab (S/C)*R.ab C=R.ab S:=by rw[<-R.gQ,bET]
 have i75:R.pz (-1075)*R.pz 1075=1:=by rw[<-R.kB];exact R.fB
 have P75:1<=R.pz 1075:=by rw[<-R.fB];exact R.dO (by omega)
 have tV:R.pz (-1075)<=R.ab (S/C)/\R.ab (S/C)<=R.pz 1075:=by
  have a0:=R.aT (S/C);generalize R.ab (S/C)=a at *;constructor
  ·have:=R.aH a0 (show 0<=1-R.ab C by grind);grind
  ·refine R.dK bGM ?_;have:=R.aH a0 (show 0<=R.ab C-R.pz (-1075) by grind);grind
 have bLM:=aCV _ tV.1;obtain⟨V,hV⟩:∃V,V=tv fn k (R.sn ρ) (R.cs ρ):=⟨_,rfl⟩;obtain⟨bE,vl,vh,V0,oE⟩:Bx (tE fn k r p) V (200000*z*R.ab V) (mg (p-6))/\R.pz (-1075)<=R.ab V/\R.ab V<=R.pz 1075/\V≠0/\(fn=4\/fn=5->On (tE fn k r p)/\Bx (tE fn k r p) V (16384*z*R.ab V) (mg (p-6))):=by
  rcases hf with rfl |rfl |rfl
  ·have a:V=S:=by rw[hV,hS];rfl
   have b:tE 4 k r p=t.1:=by rw[ht];rfl
   rw[a,b];exact⟨Ht b1 (by have:=R.aH (bQY z0) (R.aT S);grind),sS.1,by grind,S0,fun _=>⟨aYB.1,b1⟩⟩
  ·have a:V=C:=by rw[hV,hC];rfl
   have b:tE 5 k r p=t.2:=by rw[ht];rfl
   rw[a,b];exact⟨Ht b2 (by have:=R.aH (bQY z0) (R.aT C);grind),sC.1,by grind,C0,fun _=>⟨aYB.2,b2⟩⟩
  ·have a:V=S/C:=by rw[hV,hS,hC];rfl
   have b:tE 6 k r p=(aK (iX.Oq (p+16) t.1.1 t.1.2 t.2.1 t.2.2).1 (iX.Oq (p+16) t.1.1 t.1.2 t.2.1 t.2.2).2,aK (iX.Ot (p+16) t.1.1 t.1.2 t.2.1 t.2.2).1 (iX.Ot (p+16) t.1.1 t.1.2 t.2.1 t.2.2).2):=by rw[ht];rfl
   rw[a,b];exact⟨Ht bq (by have:=R.aH (bQY z0) (R.aT (S/C));grind),tV.1,tV.2,bLM,fun h=>by omega⟩
 have nE:=Xy bE (by grind) V0;have P1100:2*R.pz 1075<=R.pz 1100:=by rw[<-R.hI];exact R.dO (by omega)
 obtain⟨bGF,bGE,bO⟩:=aCS (n:=p+20) bE (by omega) (by grind) (by grind);rw[bFG]at bO;have bX:Bx (tO fn k r p) V (524288*z*R.ab V) (mg (p-6)):=by
  refine Ht bO ?_;have k1:=R.aH (bQY z0) (show 0<=5/4*R.ab V-R.ab (R.qz (tE fn k r p).1) by grind);have k2:=R.aH (bQY z0) (show 0<=5/4*R.ab V-R.ab (R.qz (tE fn k r p).2) by grind);have k3:=R.aH (bQY z0) (R.aT V);grind
 have bY:fn=4\/fn=5->Bx (tO fn k r p) V (32768*z*R.ab V) (mg (p-6)):=by
  intro h;obtain⟨_,_,b⟩:=aCS (n:=p+20) (oE h).2 (by omega) (by grind) (by grind);rw[bFG]at b;refine Ht b ?_;have k1:=R.aH (bQY z0) (show 0<=5/4*R.ab V-R.ab (R.qz (tE fn k r p).1) by grind);have k2:=R.aH (bQY z0) (show 0<=5/4*R.ab V-R.ab (R.qz (tE fn k r p).2) by grind);have k3:=R.aH (bQY z0) (R.aT V);grind
 have g1:=zZ false (tE fn k r p).1 (p+20).toNat;have g2:=zZ true (tE fn k r p).2 (p+20).toNat;rw[show(((p+20).toNat:Nat):Int)=p+20 by omega]at g1 g2;have nX:=Xy bX (by grind) V0;have m1:(tO fn k r p).1.1≠0:=Dm (by grind);have m2:(tO fn k r p).2.1≠0:=Dm (by grind);have x1:=Vz (up:=false) (p:=(tE fn k r p).1) (n:=p+20) m1;have x2:=Vz (up:=true) (p:=(tE fn k r p).2) (n:=p+20) m2;have h1076:R.pz (-1076)<=3/4*R.pz (-1075):=by
  have:=R.nD (-1075);rw[show(-1075:Int)-1=-1076 by rfl]at this;grind
 have y1:=Fv (p:=(tE fn k r p).1) (E:=-1076) (Dm (by grind)) (by grind);have y2:=Fv (p:=(tE fn k r p).2) (E:=-1076) (Dm (by grind)) (by grind);have aLU:tv fn k (R.sn (R.qz r*R.pi)) (R.cs (R.qz r*R.pi))=V:=by rw[<-hρ,hV]
 refine⟨ci,bs.aIH,bc.aIH,?_,bE.aIH,bGF,bGE,?_,?_,?_,?_,?_,?_,?_,?_⟩
 ·rw[<-ht];exact⟨q0,⟨bMN z1.1 (by omega),bMN z2.1 (by omega),bMN z3.1 (by omega),bMN z4.1 (by omega)⟩,q1,q2⟩
 ·rw[aLU];exact V0
 ·rw[aLU];exact vl
 ·rw[aLU];exact vh
 ·rw[aLU,e1];exact bX
 ·rw[aLU,e5];exact bY
 ·constructor
  ·show((bl (shD false (tE fn k r p).1 (p+20)).1.natAbs:Nat):Int)<=_;omega
  ·show((bl (shD true (tE fn k r p).2 (p+20)).1.natAbs:Nat):Int)<=_;omega
 ·constructor
  ·show -p-1200<=(shD false (tE fn k r p).1 (p+20)).2;omega
  ·show -p-1200<=(shD true (tE fn k r p).2 (p+20)).2;omega
 ·intro h2;exact⟨aCH (by omega) (oE h2).1.1,aCH (by omega) (oE h2).1.2⟩
theorem aIN{m e:Int}(he:e<0):-p2 (-1-e)<=aJ.Ac (m,e)/\aJ.Ac (m,e)<p2 (-1-e):=by
 unfold aJ.Ac aJ.iW
 try dsimp only
 rw[aY,aY];have h1:p2 (-e)=p2 (-1-e)*2:=by
  have:=nF (m:=-1-e) (n:=1) (by omega) (by omega);rwa [show -1-e+1=-e by omega]at this
 have h2:p2 (1-e)=p2 (-1-e)*4:=by
  have:=nF (m:=-1-e) (n:=2) (by omega) (by omega);rwa [show -1-e+2=1-e by omega]at this
 rw[h1,h2];have hp:=Ca (-1-e);generalize p2 (-1-e)=v at *;have a1:=bUU (m*4+v*2) (v*4);have a2:=bUV (m*4+v*2) (show v*4≠0 by omega);have a3:=bUW (m*4+v*2) (show 0<v*4 by omega);generalize (m*4+v*2)/(v*4)=K at *;have e1:v*4*K=K*v*4:=by rw[Int.mul_comm,bSE]
 have e2:K*(v*2)=K*v*2:=by rw[bSE]
 rw[e1]at a1;rw[e2];generalize K*v=t at *;omega
theorem aNG{a:Int×Int}(he:-1074<=a.2/\a.2<=-2)(ho:a.1%2=1):aVS (aJ.oW a):=by
 obtain⟨m,e⟩:=a;dsimp only at he ho;have rr:=aIN (m:=m) (e:=e) (by omega);have hR:aJ.Ac (m,e)=m*2-aJ.iW (m,e)*p2 (-e):=by
  unfold aJ.Ac;dsimp only;rw[aY]
 have hD:aJ.oW (m,e)=aK (aJ.Ac (m,e)) (e-1):=rfl;have h4:p2 (-e)=p2 (-2-e)*4:=by
  have:=nF (m:=-2-e) (n:=2) (by omega) (by omega);rwa [show -2-e+2=-e by omega]at this
 rw[h4,<-bSE]at hR;rw[hD];generalize aJ.iW (m,e)*p2 (-2-e)=q at hR;generalize aJ.Ac (m,e)=z at *;have z0:z≠0:=by omega
 obtain⟨j,hj⟩:=bQT (show 0<=-1-e by omega);have hp:p2 (-1-e)=((2^j:Nat):Int):=by rw[hj,Cb]
 have za:z.natAbs<=2^j:=by omega
 have zb:bl z.natAbs<=j+1:=dP.2 (by rw[bQQ];have:=bOQ (n:=j) (show 0<2 by decide);omega);have tl:tz z.natAbs<=j:=by
  have:=Fu (n:=z.natAbs) (by omega);rcases Nat.lt_or_ge j (tz z.natAbs)with h |h
  ·have h5:2^(j+1)<=2^tz z.natAbs:=fD;rw[bQQ]at h5;have:=bOQ (n:=j) (show 0<2 by decide);omega
  ·exact h
 have x1:=(jG (e:=e-1) z0).2;have eq:R.qz (aK z (e-1))=R.qz (z,e-1):=mF _ _;have e1:R.pz (e-1)*((2^j:Nat):Rat)=1/4:=by
  rw[<-R.dU,show e-1+(j:Int)=-2 by omega];have e:=R.fZ 0 (n:=2) (c:=4) (by norm_cast);rw[R.fB,show(0:Int)-((2:Nat):Int)=-2 by rfl]at e;grind
 have P:=R.dT (e-1);refine⟨fF (fJ (by omega) (by omega)) (by omega),bMN (qL _ _) (by omega),by omega,?_,?_⟩
 ·rw[eq,yQ];have h1:(z.natAbs:Rat)<=((2^j:Nat):Rat):=by exact_mod_cast za
  have:=R.aH (bQY P) (show 0<=((2^j:Nat):Rat)-(z.natAbs:Rat) by grind);dsimp only;grind
 ·rw[eq,yQ];have h1:(1:Rat)<=(z.natAbs:Rat):=by exact_mod_cast(show 1<=z.natAbs by omega)
  have:=R.aH (bQY P) (show 0<=(z.natAbs:Rat)-1 by grind);have:=R.dO (show(-1075:Int)<=e-1 by omega);dsimp only;grind
end M
namespace W
open Go AI M
namespace Df
def E:=mE [(78,aN.aG)] 12 [] [] []
def aE:=bd f84
theorem aW:Nk E aE:=nk
theorem start a:aF E f84 aE [D.s (sc (int i64 a))]=letI A:=aN.gW a;aP True (aB (A.fst==0&&(A.snd.fst==0&&(A.snd.snd.fst==0&&(A.snd.snd.snd==0&&true)))) (some [D.s (sc (int u64 0)),D.s (sc (int i64 1))]) (some [D.s (sc (int u64 A.snd.snd.snd)),D.s (sc (int i64 0))])):=eJ aW
def aEK(f:Int):Bool:=decide (f=32\/f=64)
def sp(f:Int):Prop×List D:=(True,[.s (.sc (.int .u64 (aN.gW f).2.2.2)),.s (.sc (.int .i64 (bif aEK f then 0 else 1)))])
theorem spec:gI E f84 aE (pN .i64) sp:=by
 intro f h;refine(start f).trans ((gP trivial).trans ?_);unfold sp aEK
 try dsimp only
 by_cases h1:f=32
 ·subst h1;rfl
 ·by_cases h2:f=64
  ·subst h2;rfl
  ·have:aN.gW f=(0,0,0,0):=by unfold aN.gW;rw[if_neg h1,if_neg h2]
   rw[this,decide_eq_false (by omega)];rfl
def aG:cX:=orc1 (pN .i64) sp
theorem ok:OK 84 aG:=(eB E aE (aA aN.ok aD) func84).nA rfl spec
end Df
namespace nM
def E:=mE [] 13 [] [] []
def aE:=bd f61
theorem aW:Nk E aE:=nk
theorem start a:aF E f61 aE [D.s (sc (int i64 a))]=letI A:=some [D.s (sc (bool true))];aB (a==4) A (aB (a==5) A (some [D.s (sc (bool (a==6)))])):=eJ aW
def uP(a:Int):Bool:=decide (a=4\/a=5\/a=6)
def sp(a:Int):Prop×List D:=(True,[.s (.sc (.bool (uP a)))])
theorem spec:gI E f61 aE (pN .i64) sp:=by
 intro a h;refine(start a).trans ?_;unfold sp uP
 try dsimp only
 by_cases h1:a=4
 ·rw[cC h1,decide_eq_true (by omega)]
 ·rw[bP h1]
  by_cases h2:a=5
  ·rw[cC h2,decide_eq_true (by omega)]
  ·rw[bP h2]
   by_cases h3:a=6
   ·rw[beq_iff_eq.2 h3,decide_eq_true (by omega)]
   ·rw[beq_eq_false_iff_ne.2 h3,decide_eq_false (by omega)]
def aG:cX:=orc1 (pN .i64) sp
theorem ok:OK 61 aG:=(eB E aE aD func61).nA rfl spec
end nM
namespace Cx
def E:=mE [] 5 [] [] []
def aE:=bd f142
theorem aW:Nk E aE:=nk
theorem start a:aF E f142 aE [D.s (sc (int i64 a))]=aB (a==32) (some [D.s (sc (int u64 2139095040))]) (some [D.s (sc (int u64 9218868437227405312))]):=eJ aW
def sp(f:Int):Prop×List D:=(f=32\/f=64,[.s (.sc (.int .u64 (kT.mK (aN.gW f))))])
theorem spec:gI E f142 aE (pN .i64) sp:=by
 intro f h;refine(start f).trans ?_;rcases h with rfl |rfl <;> rfl
def aG:cX:=orc1 (pN .i64) sp
theorem ok:OK 142 aG:=(eB E aE aD func142).nA rfl spec
end Cx
namespace aHF
def E:=mE [(135,dJ.aG)] 13 [] [] []
def aE:=bd f80
theorem aW:Nk E aE:=nk
theorem start a d e f b c:aF E f80 aE [D.agg [sc (int i64 a),sc (int i64 d),sc (int i64 e),sc (int u64 f)],D.s (sc (bool b)),D.s (sc (int u64 c))]=aB b (aP (aN.tY (a,d,e,f)) (some [D.s (sc (int u64 (dX BinOp.or u64 c (dJ.dV (a,d,e,f)))))])) (some [D.s (sc (int u64 c))]):=eJ aW
def sp(s:Int×Int×Int×Int)(b:Bool)(c:Int):Prop×List D:=(aN.tY s,[.s (.sc (.int .u64 (bif b then dX .or .u64 c (dJ.dV s)else c)))])
theorem spec:qR E f80 aE (pG (.pair (sN .i64) (.pair (sN .i64) (.pair (sN .i64) (sN .u64))))) pB (pN .u64) sp:=by
 intro s b c h;refine(start s.1 s.2.1 s.2.2.1 s.2.2.2 b c).trans ?_;cases b with
 |true=>exact gP h
 |false=>rfl
def aG:cX:=orc3 (pG (.pair (sN .i64) (.pair (sN .i64) (.pair (sN .i64) (sN .u64))))) pB (pN .u64) sp
theorem ok:OK 80 aG:=(eB E aE (aA dJ.ok aD) func80).zA rfl spec
end aHF
namespace pJ
def E:=mE [(78,aN.aG),(80,aHF.aG),(136,aGF.aG),(137,xK.aG),(94,cV.aG),(81,kT.aG)] 102 [25,80,101] [(8,[1,2,3,10]),(13,[1,2,3,10,12])] [8,13]
def aE:=bd f82
theorem aW:Nk E aE:=nk
def J8 a b c d e f g:=kV E f82 aE 8 [Lq a,cG b,bI c,dG 3 84 [cP d,cP e,cP f,aHZ g]]
def Ln a b c d e f g h:=kV E f82 aE 13 [Lq a,cG b,bI c,dG 3 84 [cP d,cP e,cP f,aHZ g],bI h]
theorem start a b c d:aF E f82 aE [D.s (sc (int i64 a)),D.s (sc (bool b)),D.s (sc (int u64 c)),D.s (sc (int i64 d))]=letI B:=some [D.s (sc (int u64 0)),D.s (sc (int i64 5))];letI A:=aN.gW a;letI C:=(A.fst,A.snd.fst,A.snd.snd.fst,A.snd.snd.snd);aP True (aB (A.fst==0&&(A.snd.fst==0&&(A.snd.snd.fst==0&&(A.snd.snd.snd==0&&true)))) (some [D.s (sc (int u64 0)),D.s (sc (int i64 1))]) (aB (c==0) (aP (aN.tY C) (some [D.s (sc (int u64 (bif b then dX BinOp.or u64 0 (dJ.dV C)else(0:Int)))),D.s (sc (int i64 0))])) (aB (decide (d<i64.wrap (A.snd.snd.fst-64))) B (aB (decide (i64.wrap (A.snd.snd.fst+4096)<d)) B (pJ.J8 b c d A.fst A.snd.fst A.snd.snd.fst A.snd.snd.snd))))):=eJ aW
theorem vQ a b c d e f g:J8 a b c d e f g=letI C:=some [D.s (sc (int u64 0)),D.s (sc (int i64 5))];letI B:=(↑(tz b.toNat):Int);letI A:=(↑((2:Nat)^min (if b=0 then(64:Int)else B).toNat 64):Int);letI F:=(↑(bl (b/A).toNat):Int);aP (0<=b/\b<18446744073709551616) (if(if b=0 then(64:Int)else B)<0 then none else aP (0<=b/A/\b/A<(18446744073709551616:Int)) (aB (decide (e<F)) C (aB (decide (i64.wrap (c+if b=0 then(64:Int)else B)<f)) C (pJ.Ln a (b/A) (i64.wrap (c+if b=0 then(64:Int)else B)) d e f g F)))):=cJ aW
theorem vE a b c d e f g h:Ln a b c d e f g h=letI F:=(d,e,f,g);letI C:=aN.tY F;letI B:=b*(↑((2:Nat)^min (if i64.wrap (c-f)<i64.wrap (e-h)then i64.wrap (c-f)else i64.wrap (e-h)).toNat 64):Int);letI A:=u64.wrap (u64.wrap (u64.wrap (i64.wrap (i64.wrap (i64.wrap (c-if i64.wrap (c-f)<i64.wrap (e-h)then i64.wrap (c-f)else i64.wrap (e-h))-f)+1))-1)*cV.lS F)+u64.wrap B;if(if i64.wrap (c-f)<i64.wrap (e-h)then i64.wrap (c-f)else i64.wrap (e-h))<0 then none else aP C (aB (decide (u64.wrap B<cV.lS F)) (aP C (some [D.s (sc (int u64 (bif a then dX BinOp.or u64 (u64.wrap B) (dJ.dV F)else u64.wrap B))),D.s (sc (int i64 0))])) (aP C (aP C (aB (decide (kT.mK F<=u64.wrap A)) (some [D.s (sc (int u64 0)),D.s (sc (int i64 5))]) (aP C (some [D.s (sc (int u64 (bif a then dX BinOp.or u64 (u64.wrap A) (dJ.dV F)else u64.wrap A))),D.s (sc (int i64 0))])))))):=cJ aW
def Yk(s:Int×Int×Int×Int)(b:Bool)(c:Int):Int:=bif b then c+dJ.dV s else c
def Lr(s:Int×Int×Int×Int)(m:Nat)(e:Int):Nat:=(if e-s.2.2.1<s.2.1-(bl m:Int)then e-s.2.2.1 else s.2.1-(bl m:Int)).toNat
def Vy(s:Int×Int×Int×Int)(m:Nat)(e:Int):Option Int :=
 if((m*2^Lr s m e:Nat):Int)<cV.lS s then some ((m*2^Lr s m e:Nat):Int)
 else if kT.mK s<=(e-(Lr s m e:Nat)-s.2.2.1)*cV.lS s+((m*2^Lr s m e:Nat):Int)then none
 else some ((e-(Lr s m e:Nat)-s.2.2.1)*cV.lS s+((m*2^Lr s m e:Nat):Int))
def aDF(s:Int×Int×Int×Int)(m:Nat)(e:Int):Option Int :=
 if e<s.2.2.1-64\/s.2.2.1+4096<e then none
 else if s.2.1<(bl (m/2^tz m):Int)\/e+(tz m:Int)<s.2.2.1 then none
 else Vy s (m/2^tz m) (e+(tz m:Int))
def aMS(s:Int×Int×Int×Int)(b:Bool)(o:Option Int):Int:=match o with
 |some c=>Yk s b c
 |none=>0
def aVC(o:Option Int):Int:=match o with
 |some _=>0
 |none=>5
def Dn(s:Int×Int×Int×Int)(m e:Int):Option Int:=if m=0 then some 0 else aDF s m.toNat e
def aRZ(s:Int×Int×Int×Int)(b:Bool)(o:Option Int):List D:=[.s (.sc (.int .u64 (aMS s b o))),.s (.sc (.int .i64 (aVC o)))]
theorem xS{s:Int×Int×Int×Int}(hs:aN.tY s){b:Bool}{c:Int}(h0:0<=c)(h1:c<dJ.dV s):(bif b then dX .or .u64 c (dJ.dV s)else c)=Yk s b c:=by
 unfold Yk;cases b with
 |false=>rfl
 |true =>
  try dsimp only[cond_true]
  obtain⟨n,rfl⟩:=bQT h0;rcases hs with rfl |rfl
  ·rw[show dJ.dV (32,24,-149,2143289345)=2147483648 from rfl]at *;rw[Pq (by omega) (by omega) (by omega) (by omega)];have:=Cc (c:=n) (n:=1) (k:=31) (by omega);rw[show(2147483648:Int).toNat=2^31*1 from rfl,bPN,this];omega
  ·rw[show dJ.dV (64,53,-1074,9221120237041090561)=9223372036854775808 from rfl]at *;rw[Pq (by omega) (by omega) (by omega) (by omega)];have:=Cc (c:=n) (n:=1) (k:=63) (by omega);rw[show(9223372036854775808:Int).toNat=2^63*1 from rfl,bPN,this];omega
theorem j13{s:Int×Int×Int×Int}(hs:aN.tY s)(b:Bool)(m:Nat)(e:Int)(h1:(bl m:Int)<=s.2.1)(h2:s.2.2.1<=e)(h3:e<=3000)(hm:m≠0) :
  Ln b (m:Int) e s.1 s.2.1 s.2.2.1 s.2.2.2 (bl m:Int)=some (aRZ s b (Vy s m e)):=by
 have hb:=rQ hm;have iN:m*2^Lr s m e<2^(bl m+Lr s m e):=by
  rw[bQS];exact Nat.mul_lt_mul_of_lt_of_le (tJ m) (bLR _) (bOQ (by decide))
 have aHM:((bl m+Lr s m e:Nat):Int)<=s.2.1:=by
  unfold Lr;split <;> omega
 have aQR:((Lr s m e:Nat):Int)<=e-s.2.2.1:=by
  unfold Lr;split <;> omega
 rw[vE];have aWI:∀k:Nat,s.2.1<=(k:Int)->m*2^Lr s m e<2^k:=fun k hk=>bMR iN (bOR (by decide) (by omega))
 have low:-1074<=s.2.2.1/\s.2.2.1<=0/\s.2.1<=53:=by rcases hs with rfl |rfl <;> ((try dsimp only);omega)
 rw[wrap_i64 (n:=e-s.2.2.1),wrap_i64 (n:=s.2.1-(bl m:Int))];have bHO:(if e-s.2.2.1<s.2.1-(bl m:Int)then e-s.2.2.1 else s.2.1-(bl m:Int))=((Lr s m e:Nat):Int):=by
  unfold Lr;split <;> omega
 rw[bHO,aY,bPN,show min (Lr s m e) 64=Lr s m e by omega,<-bRP,gP hs];unfold Vy;generalize Lr s m e=u at *;generalize m*2^u=M at *;rcases hs with rfl |rfl
 ·have hM:=aWI 24 (by decide);simp only[show cV.lS (32,24,-149,2143289345)=8388608 from rfl,show kT.mK (32,24,-149,2143289345)=2139095040 from rfl]at *;rw[wrap_u64 (n:=(M:Int)),wrap_i64 (n:=e-(u:Int)),wrap_i64 (n:=e-(u:Int) - -149),wrap_i64 (n:=e-(u:Int) - -149+1),wrap_u64 (n:=e-(u:Int) - -149+1),wrap_u64 (n:=e-(u:Int) - -149+1-1),show e-(u:Int) - -149+1-1=e-(u:Int) - -149 by omega,wrap_u64 (n:=(e-(u:Int) - -149)*8388608),wrap_u64 (n:=(e-(u:Int) - -149)*8388608+(M:Int))]
  by_cases c1:(M:Int)<8388608
  ·rw[aO c1,if_pos c1,gP aN.two32,xS aN.two32 (by omega) (by show(M:Int)<2147483648;omega)];rfl
  ·rw[aI c1,if_neg c1,gP aN.two32,gP aN.two32]
   by_cases c2:2139095040<=(e-(u:Int) - -149)*8388608+(M:Int)
   ·rw[aO c2,if_pos c2];rfl
   ·rw[aI c2,if_neg c2,gP aN.two32,xS aN.two32 (by omega) (by show _<2147483648;omega)];rfl
 ·have hM:=aWI 53 (by decide);simp only[show cV.lS (64,53,-1074,9221120237041090561)=4503599627370496 from rfl,show kT.mK (64,53,-1074,9221120237041090561)=9218868437227405312 from rfl]at *
  by_cases c1:(M:Int)<4503599627370496
  ·rw[wrap_u64 (n:=(M:Int)),aO c1,if_pos c1,gP aN.vG,xS aN.vG (by omega) (by show(M:Int)<9223372036854775808;omega)];rfl
  ·rw[wrap_u64 (n:=(M:Int)),wrap_i64 (n:=e-(u:Int)),wrap_i64 (n:=e-(u:Int) - -1074),wrap_i64 (n:=e-(u:Int) - -1074+1),wrap_u64 (n:=e-(u:Int) - -1074+1),wrap_u64 (n:=e-(u:Int) - -1074+1-1),show e-(u:Int) - -1074+1-1=e-(u:Int) - -1074 by omega];rw[wrap_u64 (n:=(e-(u:Int) - -1074)*4503599627370496),wrap_u64 (n:=(e-(u:Int) - -1074)*4503599627370496+(M:Int)),aI c1,if_neg c1,gP aN.vG,gP aN.vG]
   by_cases c2:9218868437227405312<=(e-(u:Int) - -1074)*4503599627370496+(M:Int)
   ·rw[aO c2,if_pos c2];rfl
   ·rw[aI c2,if_neg c2,gP aN.vG,xS aN.vG (by omega) (by show _<9223372036854775808;omega)];rfl
def sp(f:Int)(b:Bool)(m e:Int):Prop×List D:=((f=32\/f=64)/\(0<=m/\m<18446744073709551616)/\-4000<=e/\e<=2900,[.s (.sc (.int .u64 (aMS (aN.gW f) b (Dn (aN.gW f) m e)))),.s (.sc (.int .i64 (aVC (Dn (aN.gW f) m e))))])
theorem spec:aGH E f82 aE (pN .i64) pB (pN .u64) (pN .i64) sp:=by
 rintro f b m e ⟨hf,⟨aAS,aZO⟩,aHO,Xe⟩;refine(start f b m e).trans ((gP trivial).trans ?_);show _=some (aRZ (aN.gW f) b (Dn (aN.gW f) m e));unfold Dn;have hs:aN.tY (aN.gW f):=by
  rcases hf with rfl |rfl
  ·exact .inl rfl
  ·exact .inr rfl
 generalize aN.gW f=s at *;obtain⟨n,rfl⟩:=bQT aAS;have low:-1074<=s.2.2.1/\s.2.2.1<=0/\s.2.1<=53:=by rcases hs with rfl |rfl <;> ((try dsimp only);omega)
 have Dq:(s.1==0&&(s.2.1==0&&(s.2.2.1==0&&(s.2.2.2==0&&true))))=false:=by rcases hs with rfl |rfl <;> rfl
 have Yw:0<dJ.dV s:=by unfold dJ.dV;split <;> omega
 rw[Hw Dq]
 by_cases h0:(n:Int)=0
 ·rw[cC h0,if_pos h0];refine(gP hs).trans ?_;rw[xS hs (by omega) Yw];rfl
 ·have Ef:n≠0:=by omega
  have ht:=Fu Ef;have aWM:tz n<64:=(Nat.pow_lt_pow_iff_right (by decide:1<2)).1 (bSG ht (by omega));rw[bP h0,if_neg h0,wrap_i64 (n:=s.2.2.1-64),wrap_i64 (n:=s.2.2.1+4096)];unfold aDF
  by_cases c1:e<s.2.2.1-64
  ·rw[aO c1,if_pos (.inl c1)];rfl
  ·rw[aI c1]
   by_cases c2:s.2.2.1+4096<e
   ·rw[aO c2,if_pos (.inr c2)];rfl
   ·rw[aI c2,aY,vQ,if_neg h0,bPN,aY,gP,bPN,show min (tz n) 64=tz n by omega,<-Int.natCast_ediv,bPN,wrap_i64 (n:=e+(tz n:Int))];have hd:n/2^tz n≠0:=fun h=>by have:=(oO n Ef).2;rw[h]at this;cases this
    have hl:n/2^tz n<=n:=bUE _ _;generalize n/2^tz n=q at *;rw[gP]
    by_cases c3:s.2.1<(bl q:Int)
    ·rw[aO c3,if_pos (.inl c3)];rfl
    ·rw[aI c3]
     by_cases c4:e+(tz n:Int)<s.2.2.1
     ·rw[aO c4,if_pos (.inr c4)];rfl
     ·rw[aI c4,aY,j13 hs b _ _ (by omega) (by omega) (by omega) hd]
def aG:cX:=orc4 (pN .i64) pB (pN .u64) (pN .i64) sp
theorem ok:OK 82 aG:=(eB E aE (aA aN.ok (aA aHF.ok (aA aGF.ok (aA xK.ok (aA cV.ok (aA kT.ok aD)))))) func82).aSE rfl spec
end pJ
namespace Oa
def E:=mE [] 14 [] [] []
def aE:=bd f141
theorem aW:Nk E aE:=nk
theorem start a b c:aF E f141 aE [D.s (sc (int i64 a)),D.s (sc (bool b)),D.s (sc (int u64 c))]=aB b (if i64.wrap (a-1)<0 then none else some [D.s (sc (int u64 (dX BinOp.or u64 c (u64.wrap ((1:Int)*(↑((2:Nat)^min (i64.wrap (a-1)).toNat 64):Int))))))]) (some [D.s (sc (int u64 c))]):=eJ aW
def sp(f:Int)(b:Bool)(c:Int):Prop×List D:=((f=32\/f=64)/\0<=c/\c<dJ.dV (aN.gW f),[.s (.sc (.int .u64 (pJ.Yk (aN.gW f) b c)))])
theorem spec:qR E f141 aE (pN .i64) pB (pN .u64) sp:=by
 rintro f b c ⟨hf,h0,h1⟩;refine(start f b c).trans ?_;have hs:aN.tY (aN.gW f):=aZ.Ep hf;unfold sp
 try dsimp only
 rw[<-pJ.xS hs h0 h1];cases b with
 |false=>rfl
 |true=>rcases hf with rfl |rfl <;> rfl
def aG:cX:=orc3 (pN .i64) pB (pN .u64) sp
theorem ok:OK 141 aG:=(eB E aE aD func141).zA rfl spec
end Oa
namespace rT
def E:=mE [(142,Cx.aG),(141,Oa.aG),(82,pJ.aG)] 27 [15,23] [] []
def aE:=bd f92
theorem aW:Nk E aE:=nk
theorem start a b c:aF E f92 aE [D.s (sc (int i64 a)),D.agg [sc (int i64 b),sc (bool c)]]=letI A:=aN.gW a;aB (b==2) (aP (a=32\/a=64) (aP ((a=32\/a=64)/\0<=kT.mK A/\kT.mK A<dJ.dV A) (some [D.s (sc (int u64 (pJ.Yk A c (kT.mK A))))]))) (aP ((a=32\/a=64)/\(0<=u64.wrap b/\u64.wrap b<18446744073709551616)/\(-4000:Int)<=(0:Int)/\(0:Int)<=(2900:Int)) (some [D.s (sc (int u64 (pJ.aMS A c (pJ.Dn A (u64.wrap b) 0))))])):=eJ aW
def Yp(f:Int)(s:Int)(n:Bool):Int:=pJ.Yk (aN.gW f) n (if s=2 then kT.mK (aN.gW f)else if s=1 then(if f=32 then 1065353216 else 4607182418800017408)else 0)
def sp(f:Int)(v:Int×Bool):Prop×List D:=((f=32\/f=64)/\(v.1=0\/v.1=1\/v.1=2),[.s (.sc (.int .u64 (Yp f v.1 v.2)))])
theorem Pr:pJ.Dn (aN.gW 64) 1 0=some 4607182418800017408/\pJ.Dn (aN.gW 32) 1 0=some 1065353216:=by
 have b1:bl 1=1:=rfl;have t1:tz (1:Int).toNat=0:=yT rfl;unfold pJ.Dn pJ.aDF pJ.Vy pJ.Lr;rw[t1];exact⟨rfl,rfl⟩
theorem spec:fK E f92 aE (pN .i64) (pG (.pair (sN .i64) sB)) sp:=by
 rintro f v ⟨hf,hv⟩;obtain⟨s,n⟩:=v;refine(start f s n).trans ?_;unfold sp Yp
 try dsimp only at *
 have hi:0<=kT.mK (aN.gW f)/\kT.mK (aN.gW f)<dJ.dV (aN.gW f):=by
  rcases hf with rfl |rfl
  ·exact⟨by show(0:Int)<=2139095040;omega,by show(2139095040:Int)<2147483648;omega⟩
  ·exact⟨by show(0:Int)<=9218868437227405312;omega,by show(9218868437227405312:Int)<9223372036854775808;omega⟩
 rcases hv with rfl |rfl |rfl
 ·rw[bP,show u64.wrap 0=0 from rfl,gP ⟨hf,by omega,by omega⟩];rfl
 ·rw[bP,show u64.wrap 1=1 from rfl,gP ⟨hf,by omega,by omega⟩];rcases hf with rfl |rfl
  ·rw[Pr.2];rfl
  ·rw[Pr.1];rfl
 ·rw[cC rfl,gP hf,gP ⟨hf,hi⟩];rfl
def aG:cX:=orc2 (pN .i64) (pG (.pair (sN .i64) sB)) sp
theorem ok:OK 92 aG:=(eB E aE (aA Cx.ok (aA Oa.ok (aA pJ.ok aD))) func92).lE rfl spec
end rT
namespace nL
def E:=mE [] 19 [] [] []
def aE:=bd f111
theorem aW:Nk E aE:=nk
theorem start a b c:aF E f111 aE [D.agg [sc (bool a),ints u64 b,sc (int i64 c)]]=aB (decide (0<c)) (some [D.s (sc (int i64 1))]) (aB (c==0) (some [D.s (sc (int i64 2))]) (aB (c==(-1:Int)) (some [D.s (sc (int i64 3))]) (aB (c==(-2:Int)) (some [D.s (sc (int i64 4))]) (some [D.s (sc (int i64 0))])))):=eJ aW
def oC(e:Int):Int:=if 0<e then 1 else if e=0 then 2 else if e=-1 then 3 else if e=-2 then 4 else 0
def sp(x:dR):Prop×List D:=(True,[.s (.sc (.int .i64 (oC x.2.2)))])
theorem spec:gI E f111 aE gZ sp:=by
 intro x h;refine(start x.1 x.2.1 x.2.2).trans ?_;unfold sp oC
 try dsimp only
 by_cases h1:0<x.2.2
 ·rw[aO h1,if_pos h1]
 ·rw[aI h1,if_neg h1]
  by_cases h2:x.2.2=0
  ·rw[cC h2,if_pos h2]
  ·rw[bP h2,if_neg h2]
   by_cases h3:x.2.2=-1
   ·rw[cC h3,if_pos h3]
   ·rw[bP h3,if_neg h3]
    by_cases h4:x.2.2=-2
    ·rw[cC h4,if_pos h4]
    ·rw[bP h4,if_neg h4]
def aG:cX:=orc1 gZ sp
theorem ok:OK 111 aG:=(eB E aE aD func111).nA rfl spec
end nL
namespace dS
def E:=mE [(111,nL.aG),(60,Rs.aG)] 97 [] [] []
def aE:=bd f63
theorem aW:Nk E aE:=nk
theorem start a b c d:aF E f63 aE [D.s (sc (int i64 a)),D.agg [sc (bool b),ints u64 c,sc (int i64 d)]]=letI Z:=bool false;letI Y:=bool (wv (b,c)%4==(3:Int));letI X:=int i64 0;letI U:=nL.oC d==1;letI O:=nL.oC d==3;letI N:=some [D.agg [sc X,sc Z],D.s (sc Z)];letI I:=nL.oC d==2;letI F:=sc (bool true);letI T:=some [D.agg [sc X,sc (bool b)],D.s F];letI Q:=some [D.agg [sc (int i64 1),sc (bool I)],D.s F];letI P:=some [D.agg [sc X,sc (bool (b !=I))],D.s F];letI G:=some [D.agg [sc (int i64 1),sc Y],D.s F];letI C:=aB (a==6) (aB (nL.oC d==4) G N) N;letI H:=aB (a==6) (aB O (some [D.agg [sc (int i64 2),sc Y],D.s F]) C) C;letI A:=aB (a==6) (aB U P (aB I P H)) H;letI K:=aB (a==5) (aB O (some [D.agg [sc X,sc Z],D.s F]) A) A;letI B:=aB (a==5) (aB U Q (aB I Q K)) K;letI W:=aB (a==4) (aB O G B) B;aP True (aP (jK (b,c)) (aB (a==4) (aB U T (aB I T W)) W)):=eJ aW
def wW(fn:Int)(p:Int×Int):Int×Bool×Bool :=
 if fn=4 then(if 0<=p.2 then(0,isNeg p.1,true)else if p.2=-1 then(1,p.1%4==3,true)else(0,false,false))
 else if fn=5 then(if 0<=p.2 then(1,p.2==0,true)else if p.2=-1 then(0,false,true)else(0,false,false))
 else if fn=6 then(if 0<=p.2 then(0,isNeg p.1 !=(p.2==0),true)else if p.2=-1 then(2,p.1%4==3,true)else if p.2=-2 then(1,p.1%4==3,true)else(0,false,false))
 else(0,false,false)
def sp(fn:Int)(x:dR):Prop×List D:=(aL x,[.agg [.sc (.int .i64 (wW fn (dv x)).1),.sc (.bool (wW fn (dv x)).2.1)],.s (.sc (.bool (wW fn (dv x)).2.2))])
theorem spec:fK E f63 aE (pN .i64) gZ sp:=by
 intro fn x h;have h:aL x:=h;refine(start fn x.1 x.2.1 x.2.2).trans ((gP trivial).trans ((gP h.Dh).trans ?_));have hw:=h.Dh.cells.1;obtain⟨b,a,e⟩:=x
 try dsimp only at *
 unfold sp wW dv
 try dsimp only
 rw[hw];generalize wv (b,a)=z;have Sg:(0<e/\nL.oC e=1)\/(e=0/\nL.oC e=2)\/(e=-1/\nL.oC e=3)\/(e=-2/\nL.oC e=4)\/(e < -2/\nL.oC e=0):=by
  unfold nL.oC;split
  ·omega
  ·split
   ·omega
   ·split
    ·omega
    ·split <;> omega
 generalize nL.oC e=pv at *
 by_cases h4:fn=4
 ·subst h4;rcases Sg with ⟨he,rfl⟩ |⟨rfl,rfl⟩ |⟨rfl,rfl⟩ |⟨rfl,rfl⟩ |⟨he,rfl⟩
  ·rw[if_pos rfl,aU];rfl
  ·rfl
  ·rfl
  ·rfl
  ·rw[if_pos rfl,aY,aY];rfl
 ·by_cases h5:fn=5
  ·subst h5;rcases Sg with ⟨he,rfl⟩ |⟨rfl,rfl⟩ |⟨rfl,rfl⟩ |⟨rfl,rfl⟩ |⟨he,rfl⟩
   ·rw[aY,if_pos rfl,aU,beq_eq_false_iff_ne.2 (show e≠0 by omega)];rfl
   ·rfl
   ·rfl
   ·rfl
   ·rw[aY,if_pos rfl,aY,aY];rfl
  ·by_cases h6:fn=6
   ·subst h6;rcases Sg with ⟨he,rfl⟩ |⟨rfl,rfl⟩ |⟨rfl,rfl⟩ |⟨rfl,rfl⟩ |⟨he,rfl⟩
    ·rw[aY,aY,if_pos rfl,aU,beq_eq_false_iff_ne.2 (show e≠0 by omega)];rfl
    ·rfl
    ·rfl
    ·rfl
    ·rw[aY,aY,if_pos rfl,aY,aY,aY];rfl
   ·rw[if_neg h4,if_neg h5,if_neg h6];simp only[beq_eq_false_iff_ne.2 h4,beq_eq_false_iff_ne.2 h5,beq_eq_false_iff_ne.2 h6,bF]
def aG:cX:=orc2 (pN .i64) gZ sp
theorem ok:OK 63 aG:=(eB E aE (aA nL.ok (aA Rs.ok aD)) func63).lE rfl spec
end dS
namespace fS
def E:=mE [(84,Df.aG),(61,nM.aG),(83,Iw.aG),(92,rT.aG),(12,bM.aG),(63,dS.aG)] 67 [18,31,48,66] [(4,[0,1,2,9]),(15,[0,1,2])] [4,15]
def aE:=bd f39
theorem aW:Nk E aE:=nk
def J4 a b c d:=kV E f39 aE 4 [bI a,bI b,cG c,cG d]
def aQF a b c:=kV E f39 aE 15 [bI a,bI b,cG c]
theorem start a b c:aF E f39 aE [D.s (sc (int i64 a)),D.s (sc (int i64 b)),D.s (sc (int u64 c))]=letI A:=some [D.s (sc (int u64 0)),D.s (sc (bool false)),D.s (sc (int i64 1))];aP True (aC (aN.gW a).snd.snd.snd fun d=>aC (bif Df.aEK a then(0:Int)else(1:Int)) fun e=>aB (e !=0) A (aP True (aB (!nM.uP b) A (fS.J4 a b c d)))):=eJ aW
theorem Ry a b c d:J4 a b c d=letI C:=sc (int i64 0);letI B:=sc (bool true);letI A:=some [D.s (sc (int u64 d)),D.s B,D.s C];aP ((a=32\/a=64)/\0<=c/\c<18446744073709551616) (aC (bif dZ.gA a c then lO.lH (aN.gW a) (c%dJ.dV (aN.gW a))else(0:Int)) fun e=>aC (bif dZ.gA a c then(0:Int)else(2:Int)) fun f=>aB (f !=0) (some [D.s (sc (int u64 0)),D.s (sc (bool false)),D.s (sc (int i64 f))]) (aB (e==4) A (aB (e==3) A (aB (e==0) (aB (b==5) (aP ((a=32\/a=64)/\((1:Int)=(0:Int)\/(1:Int)=(1:Int)\/(1:Int)=(2:Int))) (aC (rT.Yp a 1 false) fun g=>some [D.s (sc (int u64 g)),D.s B,D.s C])) (some [D.s (sc (int u64 c)),D.s B,D.s C])) (fS.aQF a b c))))):=cJ aW
theorem Vc a b c:aQF a b c=letI A:=bif dZ.gA a c&&aZ.fA a c then aK (bM.lA a c) (bM.lB a c)else((0:Int),(0:Int));aP ((a=32\/a=64)/\0<=c/\c<18446744073709551616) (aC (isNeg A.fst) fun d=>aC (M6.dg A.fst.natAbs) fun e=>aC A.snd fun f=>letI B:=dS.wW b (dv (d,e,f));aP (aL (d,e,f)) (aC B.fst fun g=>aC B.snd.fst fun h=>aC B.snd.snd fun i=>aB (!i) (some [D.s (sc (int u64 0)),D.s (sc (bool false)),D.s (sc (int i64 0))]) (aP ((a=32\/a=64)/\(g=0\/g=1\/g=2)) (some [D.s (sc (int u64 (rT.Yp a g h))),D.s (sc (bool true)),D.s (sc (int i64 0))])))):=cJ aW
def nR(f b:Int):Int×Int:=aK (bM.lA f b) (bM.lB f b)
theorem Gs{f b:Int}(h:f=32\/f=64)(_:0<=b)(hf:aZ.fA f b=true):iL (nR f b)/\(bM.lA f b).natAbs<2^53/\-1074<=bM.lB f b/\bM.lB f b<=1023:=by
 have hs:=aZ.Ep h;have Ef:0<=b%dJ.dV (aN.gW f):=by unfold dJ.dV;split <;> omega
 have pS:b%dJ.dV (aN.gW f)<kT.mK (aN.gW f):=of_decide_eq_true hf;have hm:=bM.Tf hs Ef;have hx:=bM.Tz hs Ef pS;have hz:(bM.lA f b).natAbs<2^53:=by
  unfold bM.lA;rw[jR];omega
 have he:-1074<=bM.lB f b/\bM.lB f b<=1023:=⟨hx.1,by unfold bM.lB;omega⟩;have hb:bl (bM.lA f b).natAbs<=53:=dP.2 hz;exact⟨fF (fJ (by omega) (by omega)) (by omega),hz,he⟩
def Ng(f fn b:Int):Int×Bool×Int :=
 if Df.aEK f=false\/nM.uP fn=false then(0,false,1)
 else if dZ.gA f b=false then(0,false,2)
 else if lO.lH (aN.gW f) (b%dJ.dV (aN.gW f))=4\/lO.lH (aN.gW f) (b%dJ.dV (aN.gW f))=3 then((aN.gW f).2.2.2,true,0)
 else if lO.lH (aN.gW f) (b%dJ.dV (aN.gW f))=0 then(if fn=5 then rT.Yp f 1 false else b,true,0)
 else if(dS.wW fn (nR f b)).2.2=true then(rT.Yp f (dS.wW fn (nR f b)).1 (dS.wW fn (nR f b)).2.1,true,0)
 else(0,false,0)
def sp(f fn b:Int):Prop×List D:=(0<=b/\b<18446744073709551616,[.s (.sc (.int .u64 (Ng f fn b).1)),.s (.sc (.bool (Ng f fn b).2.1)),.s (.sc (.int .i64 (Ng f fn b).2.2))])
theorem Nh(fn:Int)(p:Int×Int):(dS.wW fn p).1=0\/(dS.wW fn p).1=1\/(dS.wW fn p).1=2:=by
 unfold dS.wW
 repeat' split
 all_goals simp
theorem Zz{f b:Int}(h:f=32\/f=64)(c3:lO.lH (aN.gW f) (b%dJ.dV (aN.gW f))≠3)(c4:lO.lH (aN.gW f) (b%dJ.dV (aN.gW f))≠4):aZ.fA f b=true:=by
 unfold aZ.fA;have hi:cV.lS (aN.gW f)<kT.mK (aN.gW f)/\0<cV.lS (aN.gW f):=by
  rcases h with rfl |rfl
  ·exact⟨by show(8388608:Int)<2139095040;omega,by show(0:Int)<8388608;omega⟩
  ·exact⟨by show(4503599627370496:Int)<9218868437227405312;omega,by show(0:Int)<4503599627370496;omega⟩
 generalize b%dJ.dV (aN.gW f)=n at *;refine decide_eq_true ?_;unfold lO.lH at c3 c4
 by_cases h0:n=0
 ·omega
 ·by_cases h1:n<cV.lS (aN.gW f)
  ·omega
  ·by_cases h2:n<kT.mK (aN.gW f)
   ·exact h2
   ·rw[if_neg h0,if_neg h1,if_neg h2]at c3 c4
    by_cases h3:n=kT.mK (aN.gW f)
    ·rw[if_pos h3]at c3;exact(c3 rfl).elim
    ·rw[if_neg h3]at c4;exact(c4 rfl).elim
theorem spec:qR E f39 aE (pN .i64) (pN .i64) (pN .u64) sp:=by
 intro f fn b h;have h:0<=b/\b<18446744073709551616:=h;refine(start f fn b).trans ((gP trivial).trans ?_);rw[vl,vl,gP trivial];unfold sp Ng;cases hq:Df.aEK f with
 |false=>rw[if_pos (.inl rfl)];rfl
 |true =>
  have hf:f=32\/f=64:=of_decide_eq_true hq;rw[cond_true,eN rfl];cases hk:nM.uP fn with
  |false=>rw[if_pos (.inr rfl)];rfl
  |true =>
   rw[if_neg (by simp),bNR,bF,Ry,gP ⟨hf,h⟩,vl,vl];cases hp:dZ.gA f b with
   |false=>rw[if_pos rfl];rfl
   |true =>
    rw[if_neg (by simp),cond_true,cond_true,eN rfl]
    by_cases c4:lO.lH (aN.gW f) (b%dJ.dV (aN.gW f))=4
    ·rw[cC c4,if_pos (.inl c4)]
    ·rw[bP c4]
     by_cases c3:lO.lH (aN.gW f) (b%dJ.dV (aN.gW f))=3
     ·rw[cC c3,if_pos (.inr c3)]
     ·rw[bP c3,if_neg (fun h=>h.elim c4 c3)];have pS:=Zz hf c3 c4
      by_cases c0:lO.lH (aN.gW f) (b%dJ.dV (aN.gW f))=0
      ·rw[cC c0,if_pos c0]
       by_cases h5:fn=5
       ·rw[cC h5,if_pos h5,gP ⟨hf,.inr (.inl rfl)⟩];rfl
       ·rw[bP h5,if_neg h5]
      ·rw[bP c0,if_neg c0,Vc,gP ⟨hf,h⟩];have e1:(bif dZ.gA f b&&aZ.fA f b then aK (bM.lA f b) (bM.lB f b)else((0:Int),(0:Int)))=nR f b:=by rw[hp,pS];rfl
       rw[e1,nT,gP (cF (Gs hf h.1 pS).1),cU,vl,vl,vl];cases hv:(dS.wW fn (nR f b)).2.2 with
       |false=>rw[if_neg (by simp)];try rfl
       |true=>rw[if_pos rfl,bNR,bF,gP ⟨hf,Nh _ _⟩];try rfl
def aG:cX:=orc3 (pN .i64) (pN .i64) (pN .u64) sp
theorem ok:OK 39 aG:=(eB E aE (aA Df.ok (aA nM.ok (aA Iw.ok (aA rT.ok (aA bM.ok (aA dS.ok aD)))))) func39).zA rfl spec
end fS
namespace zK
def E:=mE [(57,Rt.aG)] 8 [] [] []
def aE:=bd f62
theorem aW:Nk E aE:=nk
theorem start a:aF E f62 aE [D.s (sc (int i64 a))]=letI A:=bif fR a 0 then aK a 0 else((0:Int),(0:Int));letI C:=M6.dg A.fst.natAbs;letI B:=bool (isNeg A.fst);aP (((-9223372036854775808:Int)<=a/\a<9223372036854775808)/\(-9223372036854775808:Int)<=(0:Int)/\(0:Int)<(9223372036854775808:Int)) (aP (((-9223372036854775808:Int)<=a/\a<9223372036854775808)/\(-9223372036854775808:Int)<=(0:Int)/\(0:Int)<(9223372036854775808:Int)) (some [D.agg [sc B,ints u64 C,sc (int i64 A.snd),sc B,ints u64 C,sc (int i64 A.snd)]])):=eJ aW
def sD(p q:Int×Int):D:=.agg [.sc (.bool (isNeg p.1)),.ints .u64 (M6.dg p.1.natAbs),.sc (.int .i64 p.2),.sc (.bool (isNeg q.1)),.ints .u64 (M6.dg q.1.natAbs),.sc (.int .i64 q.2)]
def sp(m:Int):Prop×List D:=(-9223372036854775808<=m/\m<9223372036854775808,[sD (aK m 0) (aK m 0)])
theorem spec:gI E f62 aE (pN .i64) sp:=by
 intro m h;have h:-9223372036854775808<=m/\m<9223372036854775808:=h;refine(start m).trans ?_;have hb:bl m.natAbs<=64:=dP.2 (by omega);rw[gP ⟨h,by omega,by omega⟩,gP ⟨h,by omega,by omega⟩];have e:(bif fR m 0 then aK m 0 else((0:Int),(0:Int)))=aK m 0:=by rw[fJ (by omega) (by omega)];rfl
 rw[e];rfl
def aG:cX:=orc1 (pN .i64) sp
theorem ok:OK 62 aG:=(eB E aE (aA Rt.ok aD) func62).nA rfl spec
end zK
namespace fI
def E:=mE [(61,nM.aG),(12,bM.aG),(62,zK.aG),(63,dS.aG)] 98 [33] [(3,[0,1,2,6])] [3]
def aE:=bd f19
theorem aW:Nk E aE:=nk
def J3 a b c d e f g:=kV E f19 aE 3 [bI a,cG b,bI c,dG 3 44 [cI d,sc (slice none 0 0),cP e,cI f,sc (slice none 0 0),cP g]]
theorem start a b c:aF E f19 aE [D.s (sc (int i64 a)),D.s (sc (int u64 b)),D.s (sc (int i64 c))]=letI A:=some [D.agg [sc (bool false),sc (slice none 0 0),sc (int i64 0),sc (bool false),sc (slice none 0 0),sc (int i64 0)],D.s (sc (int i64 1))];aP True (aB (!nM.uP a) A (aB (decide (c<1)) A (aB (decide (66000<c)) A (fI.J3 a b c false 0 false 0)))):=eJ aW
theorem gH a b c d e f g:J3 a b c d e f g=letI N:=bool false;letI I:=aK 0 0;letI P:=M6.dg I.fst.natAbs;letI H:=aK 1 0;letI O:=M6.dg H.fst.natAbs;letI G:=slice none 0 0;letI C:=int i64 0;letI A:=bif dZ.gA 64 b&&aZ.fA 64 b then aK (bM.lA 64 b) (bM.lB 64 b)else((0:Int),(0:Int));aP (((64:Int)=(32:Int)\/(64:Int)=(64:Int))/\0<=b/\b<18446744073709551616) (aC (isNeg A.fst) fun h=>aC (M6.dg A.fst.natAbs) fun i=>aC A.snd fun j=>letI F:=dS.wW a (dv (h,i,j));aC (bif dZ.gA 64 b then bif aZ.fA 64 b then(0:Int)else(6:Int)else(2:Int)) fun k=>aB (k !=0) (some [D.agg [sc N,sc G,sc C,sc N,sc G,sc C],D.s (sc (int i64 k))]) (aB ((i.length:Int)==(0:Int)) (aB (a==5) (aP ((-9223372036854775808:Int)<=(1:Int)/\(1:Int)<(9223372036854775808:Int)) (aC (isNeg H.fst) fun l=>aC O fun m=>aC H.snd fun n=>aC (isNeg H.fst) fun o=>aC O fun p=>aC H.snd fun q=>some [D.agg [sc (bool l),ints u64 m,sc (int i64 n),sc (bool o),ints u64 p,sc (int i64 q)],D.s (sc C)])) (aP ((-9223372036854775808:Int)<=(0:Int)/\(0:Int)<(9223372036854775808:Int)) (aC (isNeg I.fst) fun r=>aC P fun s=>aC I.snd fun t=>aC (isNeg I.fst) fun u=>aC P fun v=>aC I.snd fun w=>some [D.agg [sc (bool r),ints u64 s,sc (int i64 t),sc (bool u),ints u64 v,sc (int i64 w)],D.s (sc C)]))) (aP (aL (h,i,j)) (aC F.fst fun x=>letI K:=aK x 0;letI T:=M6.dg K.fst.natAbs;letI B:=aK (i64.wrap ((0:Int)-x)) 0;letI Q:=M6.dg B.fst.natAbs;aC F.snd.fst fun y=>aC F.snd.snd fun z=>aB z (aB (x==2) (some [D.agg [sc N,sc G,sc C,sc N,sc G,sc C],D.s (sc (int i64 6))]) (aB y (aP ((-9223372036854775808:Int)<=i64.wrap ((0:Int)-x)/\i64.wrap ((0:Int)-x)<9223372036854775808) (aC (isNeg B.fst) fun aa=>aC Q fun ab=>aC B.snd fun ac=>aC (isNeg B.fst) fun ad=>aC Q fun ae=>aC B.snd fun af=>some [D.agg [sc (bool aa),ints u64 ab,sc (int i64 ac),sc (bool ad),ints u64 ae,sc (int i64 af)],D.s (sc C)])) (aP ((-9223372036854775808:Int)<=x/\x<9223372036854775808) (aC (isNeg K.fst) fun ag=>aC T fun ah=>aC K.snd fun ai=>aC (isNeg K.fst) fun aj=>aC T fun ak=>aC K.snd fun al=>some [D.agg [sc (bool ag),ints u64 ah,sc (int i64 ai),sc (bool aj),ints u64 ak,sc (int i64 al)],D.s (sc C)])))) none)))):=cJ aW
def uT(fn:Int)(b:Int):Int:=if(fS.nR 64 b).1=0 then(if fn=5 then 1 else 0)else if(dS.wW fn (fS.nR 64 b)).2.1=true then -(dS.wW fn (fS.nR 64 b)).1 else(dS.wW fn (fS.nR 64 b)).1
def aGY(fn b p:Int):Prop:=nM.uP fn=true/\1<=p/\p<=66000/\aZ.fA 64 b=true/\((fS.nR 64 b).1≠0->(dS.wW fn (fS.nR 64 b)).2.2=true/\(dS.wW fn (fS.nR 64 b)).1≠2)
def sp(fn b p:Int):Prop×List D:=((0<=b/\b<18446744073709551616)/\aGY fn b p,[zK.sD (aK (uT fn b) 0) (aK (uT fn b) 0),.s (.sc (.int .i64 0))])
theorem spec:qR E f19 aE (pN .i64) (pN .u64) (pN .i64) sp:=by
 rintro fn b p ⟨h,hk,zF,tA,hf,hx⟩;refine(start fn b p).trans ((gP trivial).trans ?_);have hp:dZ.gA 64 b=true:=rfl;have e1:(bif dZ.gA 64 b&&aZ.fA 64 b then aK (bM.lA 64 b) (bM.lB 64 b)else((0:Int),(0:Int)))=fS.nR 64 b:=by rw[hp,hf];rfl
 have e2:(bif dZ.gA 64 b then bif aZ.fA 64 b then(0:Int)else 6 else 2)=0:=by rw[hp,hf];rfl
 rw[hk,bNR,bF,aI,aI,gH,gP ⟨.inr rfl,h⟩,e1,e2,nT,vl,eN rfl];have Qe:=(fS.Gs (.inr rfl) h.1 hf).1;unfold sp uT
 try dsimp only
 generalize fS.nR 64 b=q at *;have hl:(M6.dg q.1.natAbs).length=0↔q.1=0:=by rw[M6.fU];omega
 by_cases hz:q.1=0
 ·rw[cC (by have:=hl.2 hz;omega),if_pos hz]
  by_cases h5:fn=5
  ·rw[cC h5,if_pos h5,gP];rfl
  ·rw[bP h5,if_neg h5,gP];rfl
 ·obtain⟨aNZ,aAQ⟩:=hx hz;have hs:=fS.Nh fn q;rw[bP (fun h=>hz (hl.1 (by omega))),if_neg hz,gP (cF Qe),cU,vl,vl,vl,aNZ,bT,bP aAQ];cases hn:(dS.wW fn q).2.1 with
  |false=>rw[bF,if_neg (by simp),gP];rfl
  |true=>rw[bT,if_pos rfl,wrap_i64 (n:=0-(dS.wW fn q).1),Int.zero_sub,gP];rfl
def aG:cX:=orc3 (pN .i64) (pN .u64) (pN .i64) sp
theorem ok:OK 19 aG:=(eB E aE (aA nM.ok (aA bM.ok (aA zK.ok (aA dS.ok aD)))) func19).zA rfl spec
end fI
end W
end Go.Proofs.YtplagoepbghhpaaGreatDoor
end
