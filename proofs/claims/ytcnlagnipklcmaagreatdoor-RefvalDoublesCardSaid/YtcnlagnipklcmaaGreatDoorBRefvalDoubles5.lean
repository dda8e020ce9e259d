/- Contracts of functions and laws, for the claim on RefvalDoubles. -/
import Derived.Test.YtcnlagnipklcmaaGreatDoorBRefvalDoubles4
set_option linter.unusedVariables false
set_option linter.unusedSimpArgs false
set_option exponentiation.threshold 10000000
noncomputable section
open Go.IntKind(i8 i16 i32 i64 u8 u16 u32 u64)
open Go.Proofs.Tryz
open Nat renaming le_trans->bZJ,pow_add->cDP,mul_add->cDN,mul_assoc->cDQ,mul_le_mul_left->cBB,pow_succ->cDL,pow_pos->cBM,mod_eq_of_lt->cIT,div_eq_of_lt->cEI,lt_of_lt_of_le->bZN,pow_le_pow_right->cBN,mod_lt->cAV,zero_le->cEN,mul_le_mul_right->cAA,le_refl->bYN,div_lt_of_lt_mul->cEF,mul_comm->cDM,lt_of_le_of_lt->cFA,add_mul_div_left->cFB,add_zero->bZO,div_div_eq_div_mul->cEB,exists_eq_add_of_le->bZS,pow_lt_pow_right->cFE,mul_zero->cFH,add_mul->bZH,pow_zero->cIJ,zero_add->bYP,add_assoc->cCD,mod_add_div->cIV,div_le_self->cGV,div_one->cKC,add_mul_mod_self_left->cKE,mul_div_le->cJE,mul_one->bYX,add_sub_cancel->cBL,mul_left_comm->cGH,mul_lt_mul''->cGW,sub_le->cEV,add_le_add->cMT,div_le_of_le_mul->cKT,div_add_mod->cDT,mul_le_mul->cIS,lt_mul_div_succ->cJN,mul_lt_mul_of_pos_right->cGU,add_le_add_right->cMU,le_of_ble_eq_true->cAL,lt_succ_self->cMD
open Rat renaming le_of_lt->cDU,intCast_natCast->cIW,le_refl->cEZ,intCast_mul->cJA,intCast_sub->cMB,intCast_neg->cJG,intCast_add->cKB,natCast_mul->cFK,mul_comm->cKY,mul_assoc->cJP,le_antisymm->cKJ
open Int renaming toNat_natCast->cCJ,eq_ofNat_of_zero_le->cDO,natAbs_natCast->cED,natAbs_neg->cGD,natAbs_mul->cEC,natCast_mul->cEW,tdiv_eq_ediv_of_nonneg->cFZ,tmod_eq_emod_of_nonneg->cGA,natAbs_pow->cMQ,toNat->cMC,mul_neg->cHI,natCast_ediv->cEA,neg_mul->cHX,mul_one->cLQ,add_zero->cJV,pow_pos->cBU,natCast_emod->cFC,toNat_of_nonneg->cKI,mul_ediv_add_emod->cHK,le_of_lt->cBT,mul_neg_of_neg_of_pos->cIF,mul_pos->cIE,mul_nonneg->cKF,natCast_nonneg->cIA,emod_nonneg->cHL,emod_lt_of_pos->cHM,lt_trichotomy->cMM
open List renaming replicate->cAQ,take_length->cFF,drop->cEH,take->cEG,take_set_of_le->cJB,length_drop->cCM,length_take->cBD,drop_zero->cER,length_append->bZQ,drop_set_of_lt->cJH,length_cons->cBX,length_nil->cBY,length_set->cMR,getD_eq_getElem?_getD->cDR,length_singleton->cMS,append_assoc->cAI,length_replicate->cIX
open Bool renaming not_true->cAN,not_false->cKD,true_and->cBO,and_false->cDY,false_and->cDW
namespace Go.Proofs.YtcnlagnipklcmaaGreatDoor
namespace M
open Go AI W
theorem Hr{up:Bool}{p:Int×Int}{n:Int}(hn:1<=n)(h:R.ab (R.qz p)<=1):R.ab (R.qz (shD up p n))<=1:=by
 unfold shD dC.pM;rw[qB];split
 ·exact h
 ·rename_i hk;dsimp only;have h0:p.1≠0:=by
   intro hz;rw[hz]at hk;exact hk (by show(bl 0:Int)-n<=0;rw[zQ];omega)
  have ht:=qK h0 (by rw[R.fA];exact h);unfold bG at ht;obtain⟨k,Xt⟩:=cDO (show 0<=(bl p.1.natAbs:Int)-n by omega);rw[Xt,cCJ];obtain⟨j,hj⟩:=cDO (show 0<=-(p.2+(k:Int)) by omega);have hz:p.1.natAbs<=2^j*2^k:=by
   rw[aFY]at h;rw[<-cDP];have e1:R.pz p.2*((2^(j+k):Nat):Rat)=1:=by rw[<-R.dZ,show p.2+((j+k:Nat):Int)=0 by omega,R.fA]
   have P:(0:Rat)<=((2^(j+k):Nat):Rat):=by exact_mod_cast cEN _
   have m:=R.aI P (show 0<=1-(p.1.natAbs:Rat)*R.pz p.2 by grind);have:(p.1.natAbs:Rat)<=((2^(j+k):Nat):Rat):=by
    have e2:((2^(j+k):Nat):Rat)*((p.1.natAbs:Rat)*R.pz p.2)=(p.1.natAbs:Rat):=by
     rw[cKY,cJP,e1];grind
    grind
   exact_mod_cast this
  have hp:(0:Int)<((2^k:Nat):Int):=by have:=cBM (n:=k) (show 0<2 by decide);omega
  have bOE:(p.1.natAbs:Int)<=((2^j:Nat):Int)*((2^k:Nat):Int):=by exact_mod_cast hz
  have hc:-((2^j:Nat):Int)<=lG.rD up p.1 k/\lG.rD up p.1 k<=((2^j:Nat):Int):=by
   have fl:∀w:Int,(w.natAbs:Int)<=((2^j:Nat):Int)*((2^k:Nat):Int)->-((2^j:Nat):Int)<=w/((2^k:Nat):Int)/\w/((2^k:Nat):Int)<=((2^j:Nat):Int):=by
    intro w hw;constructor
    ·refine Int.le_ediv_of_mul_le hp ?_;rw[cHX];omega
    ·exact Int.ediv_le_of_le_mul hp (by omega)
   unfold lG.rD;cases up with
   |false=>rw[cond_false];exact fl _ bOE
   |true =>
    rw[cond_true];have:=fl (-p.1) (by rw[cGD];exact bOE);omega
  generalize lG.rD up p.1 k=c at *;have e1:R.pz (p.2+(k:Int))*((2^j:Nat):Rat)=1:=by rw[<-R.dZ,show p.2+(k:Int)+(j:Int)=0 by omega,R.fA]
  have pp:=R.dK (p.2+(k:Int));have c1:-((2^j:Nat):Rat)<=(c:Rat):=by
   have:((-((2^j:Nat):Int):Int):Rat)<=(c:Rat):=by exact_mod_cast hc.1
   rwa [cJG,cIW]at this
  have c2:(c:Rat)<=((2^j:Nat):Rat):=by
   have:(c:Rat)<=(((2^j:Nat):Int):Rat):=by exact_mod_cast hc.2
   rwa [cIW]at this
  have m1:=R.aI (cDU pp) (show 0<=(c:Rat)+((2^j:Nat):Rat) by grind);have m2:=R.aI (cDU pp) (show 0<=((2^j:Nat):Rat)-(c:Rat) by grind);rw[R.bY];constructor <;> grind
def On(s:(Int×Int)×(Int×Int)):Prop:=R.ab (R.qz s.1)<=1/\R.ab (R.qz s.2)<=1
theorem On.neg{s:(Int×Int)×(Int×Int)}(h:On s):On (nV.Bd s.2,nV.Bd s.1):=by
 constructor
 ·show R.ab (R.qz (-s.2.1,s.2.2))<=1;rw[rP,R.iL];exact h.2
 ·show R.ab (R.qz (-s.1.1,s.1.2))<=1;rw[rP,R.iL];exact h.1
theorem On.trn{s c:(Int×Int)×(Int×Int)}(hs:On s)(hc:On c):∀n:Nat,On (VTurned.trn s c n).1/\On (VTurned.trn s c n).2:=by
 intro n
 induction n generalizing s c with
 |zero=>exact⟨hs,hc⟩
 |succ n ih=>exact ih hc hs.neg
theorem Ev{s:(Int×Int)×(Int×Int)}{V ρ m:Rat}(h:Bx s V (ρ*R.ab V) m)(r1:ρ<=1/64)(V0:V≠0) :
  63/64*R.ab V<=R.ab (R.qz s.1)/\R.ab (R.qz s.1)<=65/64*R.ab V/\63/64*R.ab V<=R.ab (R.qz s.2)/\R.ab (R.qz s.2)<=65/64*R.ab V/\(0<V->0<R.qz s.1)/\(V<0->R.qz s.2<0)/\0<R.ab V:=by
 obtain⟨_,_,_,_,m0,lo,hi,wd⟩:=h;have a0:0<R.ab V:=by
  unfold R.ab;split <;> grind
 have k:=R.aI (cDU a0) (show 0<=1/64-ρ by grind);generalize hρ:ρ*R.ab V=W at *
 by_cases c:0<V
 ·have e:R.ab V=V:=R.bQ (cDU c);rw[e]at a0 k hρ;rw[e];rw[R.bQ (show 0<=R.qz s.1 by grind),R.bQ (show 0<=R.qz s.2 by grind)];refine⟨by grind,by grind,by grind,by grind,fun _=>by grind,fun _=>by grind,c⟩
 ·have e:R.ab V=-V:=by unfold R.ab;rw[if_neg (by grind)]
  rw[e]at a0 k hρ;rw[e];rw[<-R.iL,R.bQ (show 0<=-R.qz s.1 by grind),<-R.iL,R.bQ (show 0<=-R.qz s.2 by grind)];refine⟨by grind,by grind,by grind,by grind,fun _=>by grind,fun _=>by grind,by grind⟩
theorem Rv{s:(Int×Int)×(Int×Int)}{V W W' m:Rat}(h:Bx s V W m)(hw:W<=W'):Bx s V W' m:=by
 obtain⟨a,b,c,d,e,f,g,i⟩:=h;exact⟨a,b,c,d,e,f,g,Rat.le_trans i hw⟩
def eE(fn:Int)(x:Int×Int)(p:Int):(Int×Int)×(Int×Int):=(shD false (rE fn x (p+80) (p+12)).1 (p+20),shD true (rE fn x (p+80) (p+12)).2 (p+20))
structure bGK(fn:Int)(x:Int×Int)(p k:Int):Prop where
 so:wQ.aKA (bBB x (p+80)) (p+12)
 co:dX.aNU (bBB x (p+80)) (p+12)
 sS:dW (rB (rS x (p+80) (p+14)).1 (rS x (p+80) (p+14)).2)
 sC:dW (rB (rC x (p+80) (p+14)).1 (rC x (p+80) (p+14)).2)
 t1:dW (rB (tA x (p+80) (p+14)).1.1 (tA x (p+80) (p+14)).1.2)
 t2:dW (rB (tA x (p+80) (p+14)).2.1 (tA x (p+80) (p+14)).2.2)
 z:Qu (tA x (p+80) (p+14)).1.1/\Qu (tA x (p+80) (p+14)).1.2/\Qu (tA x (p+80) (p+14)).2.1/\Qu (tA x (p+80) (p+14)).2.2
 q0:fW.tR (tA x (p+80) (p+14)).2.1 (tA x (p+80) (p+14)).2.2≠0
 q1:jR (nQ.Zl (p+20) (tA x (p+80) (p+14)).1.1 (tA x (p+80) (p+14)).1.2 (tA x (p+80) (p+14)).2.1 (tA x (p+80) (p+14)).2.2).1 (nQ.Zl (p+20) (tA x (p+80) (p+14)).1.1 (tA x (p+80) (p+14)).1.2 (tA x (p+80) (p+14)).2.1 (tA x (p+80) (p+14)).2.2).2=true
 q2:jR (nQ.Zm (p+20) (tA x (p+80) (p+14)).1.1 (tA x (p+80) (p+14)).1.2 (tA x (p+80) (p+14)).2.1 (tA x (p+80) (p+14)).2.2).1 (nQ.Zm (p+20) (tA x (p+80) (p+14)).1.1 (tA x (p+80) (p+14)).1.2 (tA x (p+80) (p+14)).2.1 (tA x (p+80) (p+14)).2.2).2=true
 re:dW (rB (rE fn x (p+80) (p+12)).1 (rE fn x (p+80) (p+12)).2)
 s1:uE false (rE fn x (p+80) (p+12)).1 (p+20)=true
 s2:uE true (rE fn x (p+80) (p+12)).2 (p+20)=true
 v0:R.fv fn (R.qz x) k≠0
 vl:R.pz (-1100)<=R.ab (R.fv fn (R.qz x) k)
 vh:R.ab (R.fv fn (R.qz x) k)<=R.pz 1090
 bx:Bx (eE fn x p) (R.fv fn (R.qz x) k) (R.pz (-p-8)*R.ab (R.fv fn (R.qz x) k)) (mg p)
 bits:(bl (eE fn x p).1.1.natAbs:Int)<=p+21/\(bl (eE fn x p).2.1.natAbs:Int)<=p+21
 ok:cB.jW (eE fn x p).2 (-(eE fn x p).1.1,(eE fn x p).1.2)=true
 thin:Gz.aUB (eE fn x p).1 (eE fn x p).2 p=true
 on:fn<=2->On (eE fn x p)
theorem Be{p:Int×Int}(h:0<R.ab (R.qz p)):p.1≠0:=Gf fun hz=>by rw[hz,R.bQ cEZ]at h;exact Rat.lt_irrefl h
theorem aKK(k:Int)(s c:Rat):R.ab (R.rs k s c)=if k%2=0 then R.ab s else R.ab c:=by
 have h4:k%4=0\/k%4=1\/k%4=2\/k%4=3:=by omega
 unfold R.rs;rcases h4 with h |h |h |h
 ·have h2:k%2=0:=by omega
  simp[h,h2,R.iL]
 ·have h2:k%2=1:=by omega
  simp[h,h2,R.iL]
 ·have h2:k%2=0:=by omega
  simp[h,h2,R.iL]
 ·have h2:k%2=1:=by omega
  simp[h,h2,R.iL]
theorem aKN(k:Int)(s c:Rat):R.ab (R.rc k s c)=if k%2=0 then R.ab c else R.ab s:=by
 have h4:k%4=0\/k%4=1\/k%4=2\/k%4=3:=by omega
 unfold R.rc;rcases h4 with h |h |h |h
 ·have h2:k%2=0:=by omega
  simp[h,h2,R.iL]
 ·have h2:k%2=1:=by omega
  simp[h,h2,R.iL]
 ·have h2:k%2=0:=by omega
  simp[h,h2,R.iL]
 ·have h2:k%2=1:=by omega
  simp[h,h2,R.iL]
theorem wZ{fn:Int}{x:Int×Int}{p k:Int}(hx:aCQ x)(hp:1<=p/\p<=66000)(hf:1<=fn/\fn<=3)(h:bAF x (p+80) k):bGK fn x p k:=by
 obtain⟨so,co,bs,bc,os,oc⟩:=aWC hp h;have rn:=R.Ge h.Pw;have rg:=h.rg;have hq:=h.q;obtain⟨r,hr⟩:∃r,r=R.qz x-(k:Rat)*(R.pi/2):=⟨_,rfl⟩;have bBX:R.Sf (R.qz x) k=R.rs k (R.sn r) (R.cs r):=by rw[hr];rfl
 have bBY:R.Cf (R.qz x) k=R.rc k (R.sn r) (R.cs r):=by rw[hr];rfl
 rw[<-hr]at bs bc rn rg;have t75:R.pz (-1075)*2=R.pz (-1074):=by have:=R.oW (-1074);rw[show(-1074:Int)-1=-1075 by rfl]at this;exact this
 have bRW:=R.dK (-1075);have l75:R.pz (-1075)<=1/2:=by
  have:=R.cK (show(-1074:Int)<=0 by omega);rw[R.fA]at this;grind
 obtain⟨c1,c2⟩:=R.Yo (r:=r) (by grind);have s0:R.pz (-1075)<=R.ab (R.sn r)/\R.ab (R.sn r)<=1:=by
  rw[<-R.aAF (by grind)];obtain⟨a,b⟩:=R.aDO (R.aT r) (by grind);constructor <;> grind
 have s1:R.pz (-1075)<=R.ab (R.cs r)/\R.ab (R.cs r)<=1:=by
  rw[R.bQ (show 0<=R.cs r by grind)];constructor <;> grind
 have sS:R.pz (-1075)<=R.ab (R.Sf (R.qz x) k)/\R.ab (R.Sf (R.qz x) k)<=1:=by
  rw[bBX,aKK];split <;> assumption
 have sC:R.pz (-1075)<=R.ab (R.Cf (R.qz x) k)/\R.ab (R.Cf (R.qz x) k)<=1:=by
  rw[bBY,aKN];split <;> assumption
 have Mr:∀v:Rat,R.pz (-1075)<=R.ab v->v≠0:=fun v hv hz=>by rw[hz,R.bQ cEZ]at hv;grind
 have S0:=Mr _ sS.1;have C0:=Mr _ sC.1;obtain⟨z,hz⟩:∃z,z=R.pz (-p-20):=⟨_,rfl⟩;have z0:=R.dK (-p-20);rw[<-hz]at z0;have pw:∀(a:Int) (n:Nat) (c:Rat),a=-p-20+(n:Int)->((2^n:Nat):Rat)=c->R.pz a=c*z:=fun a n c ha hc=>by
  rw[ha,R.dZ,hc,hz];grind
 have bFM:=pw (-p-12) 8 256 (by omega) (by norm_cast);have e8:=pw (-p-8) 12 4096 (by omega) (by norm_cast);have bXG:=pw (1-(p+20)) 1 2 (by omega) (by norm_cast);have bXH:=pw (2-(p+20)) 2 4 (by omega) (by norm_cast);have zs:z<=1/2097152:=by
  have:=R.cK (show -p-20<=-21 by omega);have e:=R.gN 0 (n:=21) (c:=2097152) (by norm_cast);rw[R.fA,show(0:Int)-((21:Nat):Int)=-21 by rfl]at e;grind
 obtain⟨b1,b2⟩:=Bx.trn bs bc (k:=k);have eT:tA x (p+80) (p+14)=VTurned.trn (rS x (p+80) (p+14)) (rC x (p+80) (p+14)) (k%4).toNat:=by unfold tA;rw[hq]
 rw[<-eT,<-bBX]at b1;rw[<-eT,<-bBY]at b2;have bIO:=On.trn os oc (k%4).toNat;rw[<-eT]at bIO;have b1:Bx (tA x (p+80) (p+14)).1 (R.Sf (R.qz x) k) (R.pz (-p-12)*R.ab (R.Sf (R.qz x) k)) (mg p):=by
  refine Rv b1 ?_;rw[bBX,aKK];split <;> exact cEZ
 have b2:Bx (tA x (p+80) (p+14)).2 (R.Cf (R.qz x) k) (R.pz (-p-12)*R.ab (R.Cf (R.qz x) k)) (mg p):=by
  refine Rv b2 ?_;rw[bBY,aKN];split <;> exact cEZ
 rw[bFM]at b1 b2;have bRM:=bs.Ft;have bRL:=bc.Ft;have n1:=Ev b1 (by grind) S0;have n2:=Ev b2 (by grind) C0;have h1300:R.pz (-1300)<=R.pz (-1075)/2:=by
  have:=R.oW (-1075);have:=R.cK (show(-1300:Int)<=-1075-1 by omega);grind
 have z1:Qu (tA x (p+80) (p+14)).1.1:=Sr b1.bl (Be (by grind)) (by grind) (by grind);have z2:Qu (tA x (p+80) (p+14)).1.2:=Sr b1.bh (Be (by grind)) (by grind) (by grind);have z3:Qu (tA x (p+80) (p+14)).2.1:=Sr b2.bl (Be (by grind)) (by grind) (by grind);have z4:Qu (tA x (p+80) (p+14)).2.2:=Sr b2.bh (Be (by grind)) (by grind) (by grind);have bPR:R.Sf (R.qz x) k/R.Cf (R.qz x) k*R.Cf (R.qz x) k=R.Sf (R.qz x) k:=by grind
 obtain⟨q0,q1,q2,bq⟩:=aWQ (p:=p+20) b1 b2 S0 C0 sC.2 (by grind) (by grind) bPR (by omega) z1 z2 z3 z4;rw[bXH]at bq;have aV:R.ab (R.Sf (R.qz x) k/R.Cf (R.qz x) k)*R.ab (R.Cf (R.qz x) k)=R.ab (R.Sf (R.qz x) k):=by rw[<-R.dV,bPR]
 have i75:R.pz (-1075)*R.pz 1075=1:=by rw[<-R.iK];exact R.fA
 have P75:1<=R.pz 1075:=by rw[<-R.fA];exact R.cK (by omega)
 have tV:R.pz (-1075)<=R.ab (R.Sf (R.qz x) k/R.Cf (R.qz x) k)/\R.ab (R.Sf (R.qz x) k/R.Cf (R.qz x) k)<=R.pz 1075:=by
  have a0:=R.aT (R.Sf (R.qz x) k/R.Cf (R.qz x) k);generalize R.ab (R.Sf (R.qz x) k/R.Cf (R.qz x) k)=a at *;constructor
  ·have:=R.aI a0 (show 0<=1-R.ab (R.Cf (R.qz x) k) by grind);grind
  ·refine R.bP bRW ?_;have:=R.aI a0 (show 0<=R.ab (R.Cf (R.qz x) k)-R.pz (-1075) by grind);grind
 have bYC:=Mr _ tV.1;obtain⟨bE,vl,vh,V0,oE⟩:Bx (rE fn x (p+80) (p+12)) (R.fv fn (R.qz x) k) (2048*z*R.ab (R.fv fn (R.qz x) k)) (mg p)/\R.pz (-1075)<=R.ab (R.fv fn (R.qz x) k)/\R.ab (R.fv fn (R.qz x) k)<=R.pz 1075/\R.fv fn (R.qz x) k≠0/\(fn<=2->On (rE fn x (p+80) (p+12))):=by
  have aPZ:p+12+2=p+14:=by omega
  have bMM:p+12+8=p+20:=by omega
  have h3:fn=1\/fn=2\/fn=3:=by omega
  rcases h3 with rfl |rfl |rfl
  ·have a:R.fv 1 (R.qz x) k=R.Sf (R.qz x) k:=rfl;have b:rE 1 x (p+80) (p+12)=(tA x (p+80) (p+14)).1:=by unfold rE;rw[aPZ];rfl
   rw[a,b];exact⟨Rv b1 (by have:=R.aI (cDU z0) (R.aT (R.Sf (R.qz x) k));grind),sS.1,by grind,S0,fun _=>bIO.1⟩
  ·have a:R.fv 2 (R.qz x) k=R.Cf (R.qz x) k:=rfl;have b:rE 2 x (p+80) (p+12)=(tA x (p+80) (p+14)).2:=by unfold rE;rw[aPZ];rfl
   rw[a,b];exact⟨Rv b2 (by have:=R.aI (cDU z0) (R.aT (R.Cf (R.qz x) k));grind),sC.1,by grind,C0,fun _=>bIO.2⟩
  ·have a:R.fv 3 (R.qz x) k=R.Sf (R.qz x) k/R.Cf (R.qz x) k:=rfl;have b:rE 3 x (p+80) (p+12)=rQ x (p+80) (p+12):=rfl;rw[a,b];unfold rQ;rw[aPZ,bMM];exact⟨Rv bq (by have:=R.aI (cDU z0) (R.aT (R.Sf (R.qz x) k/R.Cf (R.qz x) k));grind),tV.1,tV.2,bYC,fun h=>absurd h (by decide)⟩
 have nE:=Ev bE (by grind) V0;have P1100:2*R.pz 1075<=R.pz 1100:=by rw[<-R.iM];exact R.cK (by omega)
 obtain⟨bRO,bRN,bO⟩:=Td (n:=p+20) bE (by omega) (by grind) (by grind);rw[bXG]at bO;have bX:Bx (eE fn x p) (R.fv fn (R.qz x) k) (4096*z*R.ab (R.fv fn (R.qz x) k)) (mg p):=by
  refine Rv bO ?_;have k1:=R.aI (cDU z0) (show 0<=65/64*R.ab (R.fv fn (R.qz x) k)-R.ab (R.qz (rE fn x (p+80) (p+12)).1) by grind);have k2:=R.aI (cDU z0) (show 0<=65/64*R.ab (R.fv fn (R.qz x) k)-R.ab (R.qz (rE fn x (p+80) (p+12)).2) by grind);have k3:=R.aI (cDU z0) (R.aT (R.fv fn (R.qz x) k));grind
 have nX:=Ev bX (by grind) V0;have g1:=vV false (rE fn x (p+80) (p+12)).1 (p+20).toNat;have g2:=vV true (rE fn x (p+80) (p+12)).2 (p+20).toNat;rw[show(((p+20).toNat:Nat):Int)=p+20 by omega]at g1 g2;have m1:(eE fn x p).1.1≠0:=Be (by grind);have m2:(eE fn x p).2.1≠0:=Be (by grind);have x1:=aDS (up:=false) (p:=(rE fn x (p+80) (p+12)).1) (n:=p+20) m1;have x2:=aDS (up:=true) (p:=(rE fn x (p+80) (p+12)).2) (n:=p+20) m2;have h1076:R.pz (-1076)<=63/64*R.pz (-1075):=by
  have:=R.oW (-1075);rw[show(-1075:Int)-1=-1076 by rfl]at this;grind
 have y1:=yV (p:=(rE fn x (p+80) (p+12)).1) (E:=-1076) (Be (by grind)) (by grind);have y2:=yV (p:=(rE fn x (p+80) (p+12)).2) (E:=-1076) (Be (by grind)) (by grind);refine⟨so,co,bRM,bRL,b1.Ft,b2.Ft,⟨z1,z2,z3,z4⟩,q0,q1,q2,bE.Ft,bRO,bRN,V0,?_,?_,?_,?_,?_,?_,?_⟩
 ·have:=R.cK (show(-1100:Int)<=-1075 by omega);grind
 ·have:=R.cK (show(1075:Int)<=1090 by omega);grind
 ·rw[e8];exact bX
 ·constructor
  ·show((bl (shD false (rE fn x (p+80) (p+12)).1 (p+20)).1.natAbs:Nat):Int)<=_;omega
  ·show((bl (shD true (rE fn x (p+80) (p+12)).2 (p+20)).1.natAbs:Nat):Int)<=_;omega
 ·have P1200:R.pz 1100<=R.pz (-p-1400+((p+2600).toNat:Nat)):=R.cK (by omega);refine Va (E:=-p-1400) (n:=(p+2600).toNat) bX.ph bX.pl.Hy ?_ ?_ (by grind) ?_ (by omega) (by omega) (by omega)
  ·show -p-1400<=(shD true (rE fn x (p+80) (p+12)).2 (p+20)).2;omega
  ·show -p-1400<=(shD false (rE fn x (p+80) (p+12)).1 (p+20)).2;omega
  ·rw[rP,R.iL];grind
 ·have bIG:R.pz p*z=1/1048576:=by
   rw[hz,<-R.iK,show p+(-p-20)=-20 by omega];have e:=R.gN 0 (n:=20) (c:=1048576) (by norm_cast);rw[R.fA,show(0:Int)-((20:Nat):Int)=-20 by rfl]at e;grind
  have wd:=bX.wd;have lo:=bX.lo;have hi:=bX.hi;have m0:=bX.m0;have k1:=R.aI (cDU (R.dK p)) (show 0<=4096*z*R.ab (R.fv fn (R.qz x) k)-(R.qz (eE fn x p).2-R.qz (eE fn x p).1) by grind);have k2:R.pz p*(4096*z*R.ab (R.fv fn (R.qz x) k))=R.ab (R.fv fn (R.qz x) k)/256:=by
   have:R.pz p*(4096*z*R.ab (R.fv fn (R.qz x) k))=4096*(R.pz p*z)*R.ab (R.fv fn (R.qz x) k):=by grind
   rw[this,bIG];grind
  refine aQK (by grind) ?_
  by_cases c:0<R.fv fn (R.qz x) k
  ·left;have s:=nX.2.2.2.2.1 c;rw[R.bQ (cDU c)]at *;have e:=R.bQ (cDU s);refine⟨s,?_⟩;have:=nX.1;rw[e]at this;grind
  ·right;have s:=nX.2.2.2.2.2.1 (by grind);have e:R.ab (R.qz (eE fn x p).2)=-R.qz (eE fn x p).2:=by rw[<-R.iL,R.bQ (by grind)]
   refine⟨s,?_⟩;have:=nX.2.2.1;rw[e]at this;grind
 ·intro h2;exact⟨Hr (by omega) (oE h2).1,Hr (by omega) (oE h2).2⟩
end M
open Go.Value(int bool slice)
open AI.S(sc ints)
namespace W
open Go AI M
namespace aCG
def E:=mE [(93,aW.aJ),(94,wQ.aJ),(95,dX.aJ),(96,VTurned.aJ),(21,nQ.aJ)] 72 [18,29,39,50,69] [] []
def aF:=bd f37
theorem aU:Nk E aF:=nk
theorem start a b c d:aG E f37 aF [D.s (sc (int i64 a)),D.s (sc (int u64 b)),D.s (sc (int i64 c)),D.s (sc (int i64 d))]=letI Z:=sc (int i64 0);letI F:=aW.mV b;letI W:=aW.Zt F c;letI U:=aW.Zs F c;aN ((0<=b/\b<18446744073709551616)/\iE.lM 64 b=true/\iQ.uM 64 b=true/\(1<=c/\c<=66590)/\nC F/\bl F.fst.natAbs<=64/\(-1200:Int)<=F.snd/\F.snd<=1200) (aB (isNeg U.fst) fun e=>aB (M6.dg U.fst.natAbs) fun f=>aB U.snd fun g=>aB (isNeg W.fst) fun h=>aB (M6.dg W.fst.natAbs) fun i=>aB W.snd fun j=>letI G:=(e,f,g,h,i,j);letI P:=gL.Pu (dv (fR G)) (d+2);letI O:=gL.Pt (dv (fO G)) (d+2);letI K:=cE.uN (dv (dX.Dl G)) (d+2);letI I:=cE.tY (dv (dX.wA G)) (d+2);aN (wQ.aKA G d) (aB (isNeg O.fst) fun k=>aB (M6.dg O.fst.natAbs) fun l=>aB O.snd fun m=>aB (isNeg P.fst) fun n=>aB (M6.dg P.fst.natAbs) fun o=>aB P.snd fun p=>letI A1:=(k,l,m,n,o,p);aN (dX.aNU G d) (aB (isNeg K.fst) fun q=>aB (M6.dg K.fst.natAbs) fun r=>aB K.snd fun s=>aB (isNeg I.fst) fun t=>aB (M6.dg I.fst.natAbs) fun u=>aB I.snd fun v=>letI B1:=(q,r,s,t,u,v);letI A:=VTurned.trn (dv (fO A1),dv (fR A1)) (dv (fO B1),dv (fR B1)) (aW.cQ F c).toNat;aN (dW A1/\dW B1/\0<=aW.cQ F c/\aW.cQ F c<=3) (aB (isNeg A.fst.fst.fst) fun w=>aB (M6.dg A.fst.fst.fst.natAbs) fun x=>aB A.fst.fst.snd fun y=>aB (isNeg A.fst.snd.fst) fun z=>aB (M6.dg A.fst.snd.fst.natAbs) fun aa=>aB A.fst.snd.snd fun ab=>letI N:=(w,x,y,z,aa,ab);letI D1:=dv (fR N);letI C1:=dv (fO N);aB (isNeg A.snd.fst.fst) fun ac=>aB (M6.dg A.snd.fst.fst.natAbs) fun ad=>aB A.snd.fst.snd fun ae=>aB (isNeg A.snd.snd.fst) fun af=>aB (M6.dg A.snd.snd.fst.natAbs) fun ag=>aB A.snd.snd.snd fun ah=>letI H:=(ac,ad,ae,af,ag,ah);letI Y:=dv (fR H);letI X:=dv (fO H);letI C:=nQ.Zm (i64.wrap (d+8)) C1 D1 X Y;letI T:=bW C.fst C.snd;letI B:=nQ.Zl (i64.wrap (d+8)) C1 D1 X Y;letI Q:=bW B.fst B.snd;aC (a==1) (some [D.agg [sc (bool w),ints u64 x,sc (int i64 y),sc (bool z),ints u64 aa,sc (int i64 ab)],D.s Z]) (aC (a==2) (some [D.agg [sc (bool ac),ints u64 ad,sc (int i64 ae),sc (bool af),ints u64 ag,sc (int i64 ah)],D.s Z]) (aN (dW N/\dW H/\(1<=i64.wrap (d+8)/\i64.wrap (d+8)<=70000)/\fW.tR X Y≠0/\(bl C1.fst.natAbs<=262144/\bl D1.fst.natAbs<=262144/\bl X.fst.natAbs<=262144/\bl Y.fst.natAbs<=262144)/\jR B.fst B.snd=true/\jR C.fst C.snd=true) (aB (isNeg Q.fst) fun ai=>aB (M6.dg Q.fst.natAbs) fun aj=>aB Q.snd fun ak=>aB (isNeg T.fst) fun al=>aB (M6.dg T.fst.natAbs) fun am=>aB T.snd fun an=>some [D.agg [sc (bool ai),ints u64 aj,sc (int i64 ak),sc (bool al),ints u64 am,sc (int i64 an)],D.s Z]))))))):=eJ aU
def sp(fn b w p:Int):Prop×List D:=((1<=fn/\fn<=3)/\(0<=b/\b<18446744073709551616)/\iE.lM 64 b=true/\iQ.uM 64 b=true/\aCQ (aW.mV b)/\(13<=p/\p<=66012)/\w=p+68,[Cr (rE fn (aW.mV b) w p).1 (rE fn (aW.mV b) w p).2,.s (.sc (.int .i64 0))])
theorem fold(a b:Int×Int):(isNeg a.1,M6.dg a.1.natAbs,a.2,isNeg b.1,M6.dg b.1.natAbs,b.2)=rB a b:=rfl
theorem spec:Zg E f37 aF (pN .i64) (pN .u64) (pN .i64) (pN .i64) sp:=by
 rintro fn b w p ⟨hf,hb,aRY,wV,hx,hp,hw⟩;obtain⟨pp,rfl⟩:∃pp,p=pp+12:=⟨p-12,by omega⟩;obtain rfl:w=pp+80:=by omega
 refine(start fn b (pp+80) (pp+12)).trans ?_;obtain⟨k,hk⟩:=uZ (w:=pp+80) hx (by omega);have N:=wZ (fn:=fn) (p:=pp) hx (by omega) hf hk;have q4:0<=aW.cQ (aW.mV b) (pp+80)/\aW.cQ (aW.mV b) (pp+80)<=3:=by rw[hk.q];omega
 have eb:=hx.bl;have xe0:=hx.e0;have xe1:=hx.e1;have aPZ:pp+12+2=pp+14:=by omega
 have bMM:pp+12+8=pp+20:=by omega
 have bRG:i64.wrap (pp+20)=pp+20:=wrap_i64;have so:=N.so;have co:=N.co;have sS:=N.sS;have sC:=N.sC;have t1:=N.t1;have t2:=N.t2;obtain⟨z1,z2,z3,z4⟩:=N.z;unfold sp rE rQ;dsimp only;rw[aPZ,bMM,bRG,gP ⟨hb,aRY,wV,⟨by omega,by omega⟩,hx.pK,by omega,by omega,by omega⟩,aE,aE,aE,aE,aE,aE,fold];refine(gP so).trans ?_;rw[mZ,nA,aE,aE,aE,aE,aE,aE,fold];refine(gP co).trans ?_;rw[aE,aE,aE,aE,aE,aE,fold];refine(gP ⟨sS,sC,q4.1,q4.2⟩).trans ?_;rw[mZ,nA,mZ,nA];have eT:VTurned.trn (gL.Pt (aW.Zs (aW.mV b) (pp+80)) (pp+14),gL.Pu (aW.Zt (aW.mV b) (pp+80)) (pp+14)) (cE.uN (dv (dX.Dl (rB (aW.Zs (aW.mV b) (pp+80)) (aW.Zt (aW.mV b) (pp+80))))) (pp+14),cE.tY (dv (dX.wA (rB (aW.Zs (aW.mV b) (pp+80)) (aW.Zt (aW.mV b) (pp+80))))) (pp+14)) (aW.cQ (aW.mV b) (pp+80)).toNat=tA (aW.mV b) (pp+80) (pp+14):=rfl;rw[eT,aE,aE,aE,aE,aE,aE,aE,aE,aE,aE,aE,aE];have h3:fn=1\/fn=2\/fn=3:=by omega
 rcases h3 with rfl |rfl |rfl
 ·rfl
 ·rfl
 ·rw[cP (by decide),cP (by decide),fold,fold,mZ,nA,mZ,nA];have p1:1<=pp+20:=by omega
  have p2:pp+20<=70000:=by omega
  have y1:=bZJ z1.1 (show 100000<=262144 by decide);have y2:=bZJ z2.1 (show 100000<=262144 by decide);have y3:=bZJ z3.1 (show 100000<=262144 by decide);have y4:=bZJ z4.1 (show 100000<=262144 by decide);have c:=And.intro t1 (And.intro t2 (And.intro (And.intro p1 p2) (And.intro N.q0 (And.intro (And.intro y1 (And.intro y2 (And.intro y3 y4))) (And.intro N.q1 N.q2)))));refine(gP c).trans ?_;rw[aE,aE,aE,aE,aE,aE];rfl
def aJ:dO:=orc4 (pN .i64) (pN .u64) (pN .i64) (pN .i64) sp
theorem ok:OK 37 aJ:=(eI E aF (aA aW.ok (aA wQ.ok (aA dX.ok (aA VTurned.ok (aA nQ.ok aD))))) func37).aUP rfl spec
end aCG
namespace sD
def E:=mE [(100,Pk.aJ),(101,bAX.aJ),(47,Ov.aJ)] 31 [28] [] []
def aF:=bd f42
theorem aU:Nk E aF:=nk
theorem start a b d e f g c:aG E f42 aF [D.agg [sc (bool a),ints u64 b,sc (int i64 d)],D.agg [sc (bool e),ints u64 f,sc (int i64 g)],D.s (sc (int i64 c))]=letI B:=dC.pM true (dv (e,f,g)).fst (dv (e,f,g)).snd c;letI F:=bif jR B.fst B.snd then bW B.fst B.snd else((0:Int),(0:Int));letI A:=dC.pM false (dv (a,b,d)).fst (dv (a,b,d)).snd c;letI C:=bif jR A.fst A.snd then bW A.fst A.snd else((0:Int),(0:Int));aN (aQ (a,b,d)/\1<=c/\c<=70000) (aB (isNeg C.fst) fun h=>aB (M6.dg C.fst.natAbs) fun i=>aB C.snd fun j=>aB (bif jR A.fst A.snd then(0:Int)else(5:Int)) fun k=>aN (aQ (e,f,g)/\1<=c/\c<=70000) (aB (isNeg F.fst) fun l=>aB (M6.dg F.fst.natAbs) fun m=>aB F.snd fun n=>aB (bif jR B.fst B.snd then(0:Int)else(5:Int)) fun o=>aN (k=0/\o=0) (some [D.agg [sc (bool h),ints u64 i,sc (int i64 j),sc (bool l),ints u64 m,sc (int i64 n)],D.s (sc (int i64 0))]))):=eJ aU
def sp(x y:fB)(p:Int):Prop×List D:=(aQ x/\aQ y/\(1<=p/\p<=70000)/\uE false (dv x) p=true/\uE true (dv y) p=true,[Cr (shD false (dv x) p) (shD true (dv y) p),.s (.sc (.int .i64 0))])
theorem spec:uQ E f42 aF jQ jQ (pN .i64) sp:=by
 rintro x y p ⟨h1,h2,hp,i1,i2⟩;have bJA:jR (dC.pM false (dv (x.1,x.2.1,x.2.2)).1 (dv (x.1,x.2.1,x.2.2)).2 p).1 (dC.pM false (dv (x.1,x.2.1,x.2.2)).1 (dv (x.1,x.2.1,x.2.2)).2 p).2=true:=i1;have bIZ:jR (dC.pM true (dv (y.1,y.2.1,y.2.2)).1 (dv (y.1,y.2.1,y.2.2)).2 p).1 (dC.pM true (dv (y.1,y.2.1,y.2.2)).1 (dv (y.1,y.2.1,y.2.2)).2 p).2=true:=i2;refine(start x.1 x.2.1 x.2.2 y.1 y.2.1 y.2.2 p).trans ?_;simp only[aE];rw[gP ⟨h1,hp⟩,gP ⟨h2,hp⟩,bJA,bIZ,gP ⟨rfl,rfl⟩];rfl
def aJ:dO:=orc3 jQ jQ (pN .i64) sp
theorem ok:OK 42 aJ:=(eI E aF (aA Pk.ok (aA bAX.ok (aA Ov.ok aD))) func42).Dn rfl spec
end sD
namespace bAD
def E:=mE [(40,zU.aJ),(42,sD.aJ)] 23 [10,20] [] []
def aF:=bd f38
theorem aU:Nk E aF:=nk
theorem start a c d e f g b:aG E f38 aF [D.agg [sc (bool a),ints u64 c,sc (int i64 d),sc (bool e),ints u64 f,sc (int i64 g)],D.s (sc (int i64 b))]=letI C:=int i64 0;letI B:=M.shD true (dv (e,f,g)) b;letI A:=M.shD false (dv (a,c,d)) b;aN (dW (a,c,d,e,f,g)) (aB (if 1<=b/\b<=70000 then(0:Int)else(1:Int)) fun h=>aC (h !=0) (some [D.agg [sc (bool false),sc (slice none 0 0),sc C,sc (bool false),sc (slice none 0 0),sc C],D.s (sc (int i64 h))]) (aN (aQ (a,c,d)/\aQ (e,f,g)/\(1<=b/\b<=70000)/\uE false (dv (a,c,d)) b=true/\uE true (dv (e,f,g)) b=true) (aB (isNeg A.fst) fun i=>aB (M6.dg A.fst.natAbs) fun j=>aB A.snd fun k=>aB (isNeg B.fst) fun l=>aB (M6.dg B.fst.natAbs) fun m=>aB B.snd fun n=>some [D.agg [sc (bool i),ints u64 j,sc (int i64 k),sc (bool l),ints u64 m,sc (int i64 n)],D.s (sc C)]))):=eJ aU
def sp(s:uP)(p:Int):Prop×List D:=(dW s/\(1<=p/\p<=70000)/\uE false (dv (fO s)) p=true/\uE true (dv (fR s)) p=true,[Cr (shD false (dv (fO s)) p) (shD true (dv (fR s)) p),.s (.sc (.int .i64 0))])
theorem spec:fF E f38 aF sP (pN .i64) sp:=by
 rintro s p ⟨h1,hp,i1,i2⟩;refine(start s.1 s.2.1 s.2.2.1 s.2.2.2.1 s.2.2.2.2.1 s.2.2.2.2.2 p).trans ?_;rw[gP h1,aE,if_pos hp,gA rfl];exact gP ⟨h1.1,h1.2.1,hp,i1,i2⟩
def aJ:dO:=orc2 sP (pN .i64) sp
theorem ok:OK 38 aJ:=(eI E aF (aA zU.ok (aA sD.ok aD)) func38).jZ rfl spec
end bAD
namespace bN
def E:=mE [(35,dT.aJ),(36,Oq.aJ),(24,aIG.aJ),(37,aCG.aJ),(38,bAD.aJ),(39,Gz.aJ)] 93 [19,32,37,52,69,79] [(10,[0,1,2,6,10]),(6,[0,1,2,6,8]),(13,[0,1,2,6,10,11,12])] [6,13]
def aF:=bd f9
theorem aU:Nk E aF:=nk
def J6 a b c d e f g h:=lP E f9 aF 6 [bJ a,dR b,bJ c,bK 3 31 [bC d,sc (slice none 0 0),cV e,bC f,sc (slice none 0 0),cV g],aGE h]
def Ja a b c d e f g h:=nU E f9 aF 10 [bJ a,dR b,bJ c,bK 3 31 [bC d,sc (slice none 0 0),cV e,bC f,sc (slice none 0 0),cV g],bJ h]
def Qv a b c d e f g h i j k l m n o:=lP E f9 aF 13 [bJ a,dR b,bJ c,bK 3 31 [bC d,sc (slice none 0 0),cV e,bC f,sc (slice none 0 0),cV g],bJ h,bK 5 31 [bC i,eR j,cV k,bC l,eR m,cV n],bJ o]
theorem start a b c:aG E f9 aF [D.s (sc (int i64 a)),D.s (sc (int u64 b)),D.s (sc (int i64 c))]=letI B:=int i64 0;letI A:=bN.J6 a b c false 0 false 0 (dT.aCW a b c);aN (0<=b/\b<18446744073709551616) (aC (dT.Cn a b c !=0) (some [D.agg [sc (bool false),sc (slice none 0 0),sc B,sc (bool false),sc (slice none 0 0),sc B],D.s (sc (int i64 (dT.Cn a b c)))]) (aC (dT.aCW a b c) (aC (a==2) (aN ((-9223372036854775808:Int)<=(1:Int)/\(1:Int)<(9223372036854775808:Int)) (aB (isNeg (bW 1 0).fst) fun d=>aB (M6.dg (bW 1 0).fst.natAbs) fun e=>aB (bW 1 0).snd fun f=>aN (aQ (d,e,f)) (some [D.agg [sc (bool d),ints u64 e,sc (int i64 f),sc (bool d),ints u64 e,sc (int i64 f)],D.s (sc B)]))) A) A)):=eJ aU
theorem sW a b c d e f g h:J6 a b c d e f g h=aC h (aN ((-9223372036854775808:Int)<=(0:Int)/\(0:Int)<(9223372036854775808:Int)) (aB (isNeg (bW 0 0).fst) fun i=>aB (M6.dg (bW 0 0).fst.natAbs) fun j=>aB (bW 0 0).snd fun k=>aN (aQ (i,j,k)) (some [D.agg [sc (bool i),ints u64 j,sc (int i64 k),sc (bool i),ints u64 j,sc (int i64 k)],D.s (sc (int i64 0))]))) (bN.Ja a b c d e f g (i64.wrap (c+80))):=cJ aU
theorem tI a b c d e f g h:Ja a b c d e f g h=letI A:=rE a (aW.mV b) (if 68000<h then(68000:Int)else h) (i64.wrap (c+12));aN ((1<=a/\a<=3)/\(0<=b/\b<18446744073709551616)/\iE.lM 64 b=true/\iQ.uM 64 b=true/\aCQ (aW.mV b)/\(13<=i64.wrap (c+12)/\i64.wrap (c+12)<=66012)/\(if 68000<h then(68000:Int)else h)=i64.wrap (c+12)+68) (aB (isNeg A.fst.fst) fun i=>aB (M6.dg A.fst.fst.natAbs) fun j=>aB A.fst.snd fun k=>aB (isNeg A.snd.fst) fun l=>aB (M6.dg A.snd.fst.natAbs) fun m=>aB A.snd.snd fun n=>bN.Qv a b c d e f g (if 68000<h then(68000:Int)else h) i j k l m n 0):=lJ aU
theorem zZ a b c d e f g h i j k l m n o:Qv a b c d e f g h i j k l m n o=letI K:=int i64 0;letI H:=(i,j,k,l,m,n);letI G:=i64.wrap (c+20);letI C:=M.shD true (dv (fR H)) G;letI B:=M.shD false (dv (fO H)) G;aC (o !=0) (some [D.agg [sc (bool false),sc (slice none 0 0),sc K,sc (bool false),sc (slice none 0 0),sc K],D.s (sc (int i64 o))]) (aN (dW H/\(1<=i64.wrap (c+20)/\i64.wrap (c+20)<=70000)/\uE false (dv (fO H)) G=true/\uE true (dv (fR H)) G=true) (aB (isNeg B.fst) fun p=>aB (M6.dg B.fst.natAbs) fun q=>aB B.snd fun r=>aB (isNeg C.fst) fun s=>aB (M6.dg C.fst.natAbs) fun t=>aB C.snd fun u=>letI F:=(p,q,r,s,t,u);letI I:=dv (fO F);letI A:=some [D.agg [sc (bool p),ints u64 q,sc (int i64 r),sc (bool s),ints u64 t,sc (int i64 u)],D.s (sc K)];aN (dW F/\(1<=c/\c<=70000)/\cB.jW (dv (fR F)) (-I.fst,I.snd)=true) (aB (Gz.aUB I (dv (fR F)) c) fun v=>aC v A (aC (h==68000) A (bN.Ja a b c d e f g (i64.wrap (h+64))))))):=cJ aU
def An(fn b p:Int):(Int×Int)×(Int×Int):=if dT.Cn fn b p≠0 then((0,0),(0,0))else bif dT.aCW fn b p then(if fn=2 then((1,0),(1,0))else((0,0),(0,0)))else eE fn (aW.mV b) p
def sp(fn b p:Int):Prop×List D:=(0<=b/\b<18446744073709551616,[Cr (An fn b p).1 (An fn b p).2,.s (.sc (.int .i64 (dT.Cn fn b p)))])
theorem fold(a b:Int×Int):(isNeg a.1,M6.dg a.1.natAbs,a.2,isNeg b.1,M6.dg b.1.natAbs,b.2)=rB a b:=rfl
theorem aBN{b:Int}(hb:0<=b/\b<18446744073709551616)(c0:dT.Dq b≠0)(c3:dT.Dq b≠3)(c4:dT.Dq b≠4):iE.lM 64 b=true/\iQ.uM 64 b=true/\Vo (gW.wU 64 b) (gW.xD 64 b):=by
 have hp:iE.lM 64 b=true:=rfl;unfold dT.Dq at c0 c3 c4;rw[hp,cond_true]at c0 c3 c4;have e1:gJ.tF (cG.sR 64)=4503599627370496:=rfl;have e2:yP.Di (cG.sR 64)=9218868437227405312:=rfl;have e3:jK.kJ (cG.sR 64)=9223372036854775808:=rfl;have e4:(cG.sR 64).2.2.1=-1074:=rfl;unfold Ac.zL at c0 c3 c4;rw[e1,e2]at c0 c3 c4;have n0:b%9223372036854775808≠0:=fun h=>by rw[h,if_pos rfl]at c0;exact c0 rfl
 have n1:b%9223372036854775808<9218868437227405312:=by
  rw[if_neg n0]at c3 c4
  by_cases h1:b%9223372036854775808<4503599627370496
  ·omega
  ·rw[if_neg h1]at c3 c4
   by_cases h2:b%9223372036854775808<9218868437227405312
   ·exact h2
   ·rw[if_neg h2]at c3 c4
    by_cases h3:b%9223372036854775808=9218868437227405312
    ·rw[if_pos h3]at c3;exact absurd rfl c3
    ·rw[if_neg h3]at c4;exact absurd rfl c4
 refine⟨hp,?_,?_⟩
 ·unfold iQ.uM;rw[e2,e3];exact dqT n1
 ·have hz:(gW.wU 64 b).natAbs=(jV.Em (cG.sR 64) (b%9223372036854775808)).toNat:=by
   unfold gW.wU;rw[nM,e3]
  have hm:0<jV.Em (cG.sR 64) (b%9223372036854775808)/\jV.Em (cG.sR 64) (b%9223372036854775808)<9007199254740992:=by
   unfold jV.Em;rw[e1];split <;> omega
  have he:-1074<=gW.xD 64 b/\gW.xD 64 b<=971:=by
   unfold gW.xD jV.Ik;rw[e1,e3,e4];split <;> omega
  exact⟨by omega,by omega,he.1,he.2⟩
theorem told{fn b p:Int}(c:dT.Cn fn b p=0)(hz:dT.aCW fn b p=false):(1<=fn/\fn<=3)/\(1<=p/\p<=66000)/\dT.Dq b≠0/\dT.Dq b≠3/\dT.Dq b≠4:=by
  unfold dT.Cn at c;unfold dT.aCW at hz
  by_cases c1:fn<1
  ·rw[if_pos c1]at c;omega
  ·rw[if_neg c1]at c hz
   by_cases c2:3<fn
   ·rw[if_pos c2]at c;omega
   ·rw[if_neg c2]at c hz
    by_cases c3:p<1
    ·rw[if_pos c3]at c;omega
    ·rw[if_neg c3]at c hz
     by_cases c4:66000<p
     ·rw[if_pos c4]at c;omega
     ·rw[if_neg c4]at c hz
      by_cases c5:dT.Dq b=3
      ·rw[if_pos c5]at c;omega
      ·rw[if_neg c5]at c
       by_cases c6:dT.Dq b=4
       ·rw[if_pos c6]at c;omega
       ·exact⟨by omega,by omega,beq_eq_false_iff_ne.1 hz,c5,c6⟩
theorem aEE:nC (1,0):=by
 have e:bW 1 0=(1,0):=by decide +kernel
 exact e▸jE (kZ (by decide +kernel) (by decide +kernel)) (by decide +kernel)
theorem Ww:nC (0,0):=by
 have e:bW 0 0=(0,0):=iN ..;exact e▸jE (kZ (by decide +kernel) (by decide +kernel)) (by decide +kernel)
theorem Rp{fn b p:Int}(h:0<=b/\b<18446744073709551616):dW (rB (An fn b p).1 (An fn b p).2):=by
 have q:∀{w:Int×Int},nC w->dW (rB w w):=fun hw=>⟨eQ hw,eQ hw,Im _⟩
 unfold An
 by_cases c:dT.Cn fn b p=0
 ·rw[bI];cases hz:dT.aCW fn b p with
  |true =>
   rw[cond_true]
   by_cases f2:fn=2
   ·rw[if_pos f2];exact q aEE
   ·rw[if_neg f2];exact q Ww
  |false =>
   rw[cond_false];obtain⟨hf,hp,v0,v3,v4⟩:=told c hz;obtain⟨aRY,wV,hN⟩:=aBN h v0 v3 v4;obtain⟨k,hk⟩:=uZ (w:=p+80) (aNH hN) (by omega);exact(wZ (fn:=fn) (p:=p) (aNH hN) hp hf hk).bx.Ft
 ·rw[if_pos c];exact q Ww
theorem spec:bAB E f9 aF (pN .i64) (pN .u64) (pN .i64) sp:=by
 intro fn b p h;have h:0<=b/\b<18446744073709551616:=h;have s:=(start fn b p).trans (gP h);unfold sp An;dsimp only
 by_cases c:dT.Cn fn b p=0
 ·rw[bI,c];rw[c,gA rfl]at s;cases hz:dT.aCW fn b p with
  |true =>
   rw[cond_true];rw[hz,bT]at s
   by_cases f2:fn=2
   ·rw[if_pos f2];have e:bW 1 0=(1,0):=by decide +kernel
    rw[dU f2,gP ⟨by decide,by decide⟩,e,aE,aE,aE,gP (eQ (show nC (1,0)from e▸jE (kZ (by decide +kernel) (by decide +kernel)) (by decide +kernel)))]at s;exact⟨_,s,iZ.refl _⟩
   ·rw[if_neg f2];have e:bW 0 0=(0,0):=iN ..;rw[cP f2,sW,bT,gP ⟨by decide,by decide⟩,e,aE,aE,aE,gP (eQ (show nC (0,0)from e▸jE (kZ (by decide +kernel) (by decide +kernel)) (by decide +kernel)))]at s;exact⟨_,s,iZ.refl _⟩
  |false =>
   rw[cond_false];have hv:=told c hz;obtain⟨hf,hp,v0,v3,v4⟩:=hv;obtain⟨aRY,wV,hN⟩:=aBN h v0 v3 v4;have hx:aCQ (aW.mV b):=aNH hN;obtain⟨k,hk⟩:=uZ (w:=p+80) hx (by omega);have N:=wZ (fn:=fn) (p:=p) hx hp hf hk;have w1:i64.wrap (p+80)=p+80:=wrap_i64;have w2:i64.wrap (p+12)=p+12:=wrap_i64;have w3:i64.wrap (p+20)=p+20:=wrap_i64;have p1:1<=p+20/\p+20<=70000:=⟨by omega,by omega⟩;have p2:1<=p/\p<=70000:=⟨by omega,by omega⟩;have bXD:p+80=p+12+68:=by omega
   have u:=N.bx;obtain⟨re,s1,s2,ok,th⟩:=And.intro N.re (And.intro N.s1 (And.intro N.s2 (And.intro N.ok N.thin)));have Ft:dW (rB (eE fn (aW.mV b) p).1 (eE fn (aW.mV b) p).2):=u.Ft;unfold eE at ok th Ft ⊢;rw[hz,bF,sW,bF,w1,tI,w2,if_neg (show ¬(68000:Int)<p+80 by omega),gP ⟨hf,h,aRY,wV,hx,⟨by omega,by omega⟩,bXD⟩]at s;generalize rE fn (aW.mV b) (p+80) (p+12)=q at *;rw[aE,aE,aE,aE,aE,aE,zZ,gA rfl,w3,fold,mZ,nA]at s;have s:=s.trans (gP ⟨re,p1,s1,s2⟩);dsimp only at ok th Ft ⊢;generalize M.shD false q.1 (p+20)=lo at *;generalize M.shD true q.2 (p+20)=hi at *;rw[aE,aE,aE,aE,aE,aE,fold,mZ,nA]at s;have s:=s.trans (gP ⟨Ft,p2,ok⟩);rw[aE,th,bT]at s;exact⟨_,s,iZ.refl _⟩
 ·rw[if_pos c];rw[oG c]at s;refine⟨_,s,.cons ?_ (iZ.refl _)⟩;have d0:M6.dg ((0,0):Int×Int).1.natAbs=[]:=M6.cL;unfold Cr;dsimp only;rw[show(0:Int).natAbs=0 from rfl,M6.cL];exact Df.agg (.cons (Ez.refl _) (.cons (Ez.nil _) (.cons (Ez.refl _) (.cons (Ez.refl _) (.cons (Ez.nil _) (Ab.refl _))))))
def aJ:dO:=orc3 (pN .i64) (pN .u64) (pN .i64) sp
theorem ok:OK 9 aJ:=(eI E aF (aA dT.ok (aA Oq.ok (aA aIG.ok (aA aCG.ok (aA bAD.ok (aA Gz.ok aD)))))) func9).bIA rfl spec
end bN
namespace Oi
def E:=mE [(9,bN.aJ),(58,fW.aJ)] 21 [11,18] [] []
def aF:=bd f32
theorem aU:Nk E aF:=nk
theorem start a b:aG E f32 aF [D.s (sc (int i64 a)),D.s (sc (int u64 b))]=letI A:=bN.An a b 8;aN (0<=b/\b<18446744073709551616) (aB (isNeg A.fst.fst) fun c=>aB (M6.dg A.fst.fst.natAbs) fun d=>aB A.fst.snd fun e=>aB (isNeg A.snd.fst) fun f=>aB (M6.dg A.snd.fst.natAbs) fun g=>aB A.snd.snd fun h=>letI B:=(c,d,e,f,g,h);aB (dT.Cn a b 8) fun i=>aC (i !=0) (some [D.s (sc (int i64 0)),D.s (sc (int i64 i))]) (aN (dW B) (aB (fW.tR (dv (fO B)) (dv (fR B))) fun j=>some [D.s (sc (int i64 j)),D.s (sc (int i64 0))]))):=eJ aU
def bBA(fn b:Int):Int:=if dT.Cn fn b 8≠0 then 0 else fW.tR (bN.An fn b 8).1 (bN.An fn b 8).2
def sp(fn b:Int):Prop×List D:=(0<=b/\b<18446744073709551616,[.s (.sc (.int .i64 (bBA fn b))),.s (.sc (.int .i64 (dT.Cn fn b 8)))])
theorem spec:fF E f32 aF (pN .i64) (pN .u64) sp:=by
 intro fn b h;have h:0<=b/\b<18446744073709551616:=h;have s:=(start fn b).trans (gP h);unfold sp bBA;dsimp only;rw[aE,aE,aE,aE,aE,aE,aE,bN.fold,mZ,nA]at s
 by_cases c:dT.Cn fn b 8=0
 ·rw[bI,c];rw[c,gA rfl]at s;exact s.trans (gP (bN.Rp h))
 ·rw[if_pos c];rw[oG c]at s;exact s
def aJ:dO:=orc2 (pN .i64) (pN .u64) sp
theorem ok:OK 32 aJ:=(eI E aF (aA bN.ok (aA fW.ok aD)) func32).jZ rfl spec
end Oi
end W
namespace R
open W.TSums
theorem Ym(w:Nat):∀(j s c:Nat),qD w (j+1) s c=(2*((qD w j s c).1*(qD w j s c).2/w),w-2*((qD w j s c).1*(qD w j s c).1/w))
 |0,s,c=>by rw[yF];rfl
 |j+1,s,c=>by rw[yF,Ym w j,<-yF]
theorem Yl{u w j:Nat}(hj:1<=j)(hu:2^j*u<=2^w)(hw:4*j+50<=w)(aUX:w<=1000000){T:Rat}(hT:T*((2^w:Nat):Rat)=((2^j:Nat):Rat)*(u:Rat)) :
  ab (((qD (2^w) j (xR u w) (xS u w)).1:Rat)-((2^w:Nat):Rat)*sn T)<=((4^j*(2*w+10):Nat):Rat)/\ab (((qD (2^w) j (xR u w) (xS u w)).2:Rat)-((2^w:Nat):Rat)*cs T)<=((4^j*(2*w+10):Nat):Rat)/\0<=T/\T<=1:=by
 obtain⟨v,rfl⟩:=bZS (show j<=w by omega);have hW:(0:Rat)<((2^(j+v):Nat):Rat):=by exact_mod_cast cBM (by decide)
 have hJ:(0:Rat)<((2^j:Nat):Rat):=by exact_mod_cast cBM (by decide)
 have aUZ:(0:Rat)<=(u:Rat):=by exact_mod_cast cEN _
 have aIO:((2^j:Nat):Rat)*(u:Rat)<=((2^(j+v):Nat):Rat):=by exact_mod_cast hu
 have T0:0<=T:=by
  refine bP hW ?_;have:=aI (cDU hJ) aUZ;grind
 have T1:T<=1:=by
  refine bP hW ?_;grind
 have e:((2^(j+v):Nat):Rat)=((2^j:Nat):Rat)*((2^v:Nat):Rat):=by rw[cDP,cFK]
 have ev:((2^v:Nat):Rat)*T=(u:Rat):=by
  have h1:((2^j:Nat):Rat)*(((2^v:Nat):Rat)*T)=((2^j:Nat):Rat)*(u:Rat):=by rw[<-hT,e];grind
  exact cKJ (bP hJ (by rw[h1];exact cEZ)) (bP hJ (by rw[h1];exact cEZ))
 have bBE:u<=2^(j+v):=by
  have:=cAA u (cBM (n:=j) (show 0<2 by decide));omega
 obtain⟨s1,s2⟩:=Lu bBE;have c:j+v=v+j:=Nat.add_comm _ _;rw[c]at s1 s2 ⊢;have r:=aFS (w1:=v) (h:=j) (u:=u) T0 T1 (by rw[ev];exact cEZ) (by rw[ev];grind) hj (by omega) (by omega) s1 s2;exact⟨r.1,r.2,T0,T1⟩
theorem aSY{u w h:Nat}(hu:2^h*u<=2^w)(hw:4*h+50<=w)(aUX:w<=200000){j:Nat}(hj:1<=j)(bUQ:j<=h):0<(qD (2^w) j (xR u w) (xS u w)).2:=by
 have hW:(0:Rat)<((2^w:Nat):Rat):=by exact_mod_cast cBM (by decide)
 obtain⟨T,hT⟩:∃T:Rat,T*((2^w:Nat):Rat)=((2^j:Nat):Rat)*(u:Rat):=⟨((2^j:Nat):Rat)*(u:Rat)/((2^w:Nat):Rat),by grind⟩;have bTL:2^j*u<=2^w:=bZJ (cAA _ (cBN (by decide) bUQ)) hu;obtain⟨_,r,T0,T1⟩:=Yl hj bTL (by omega) (by omega) hT;have c:=(Gr T0 T1).1;have m:=cT T0 T1 T0 T1;have b:((4^j*(2*w+10):Nat):Rat)*4<=((2^w:Nat):Rat):=by
  have:4^j*(2*w+10)*4<=2^w:=by
   have h1:4^j*(2*w+10)<=2^(2*j)*2^20:=by rw[Bo];exact cBB _ (by have:(2:Nat)^20=1048576:=rfl;omega)
   have h2:2^(2*j)*2^20*4=2^(2*j+22):=by rw[cDP 2 (2*j) 22,show(2:Nat)^22=2^20*4 from rfl,cDQ]
   have h3:2^(2*j+22)<=2^w:=cBN (by decide) (by omega);omega
  exact_mod_cast this
 have m2:=aI (cDU hW) (show 0<=cs T-1/2 by grind);rw[bY]at r;have:(0:Rat)<((qD (2^w) j (xR u w) (xS u w)).2:Rat):=by grind
 exact_mod_cast this
def zsum(u W:Nat):Nat->Int×Int
 |0=>(0,0)
 |k+1=>if k%2=0 then((bif k%4==2 then(zsum u W k).1-(sq u W k:Int)else(zsum u W k).1+(sq u W k:Int)),(zsum u W k).2)else((zsum u W k).1,bif k%4==3 then(zsum u W k).2-(sq u W k:Int)else(zsum u W k).2+(sq u W k:Int))
theorem Hl(u W k:Nat):zsum u W (k+1)=if k%2=0 then((bif k%4==2 then(zsum u W k).1-(sq u W k:Int)else(zsum u W k).1+(sq u W k:Int)),(zsum u W k).2)else((zsum u W k).1,bif k%4==3 then(zsum u W k).2-(sq u W k:Int)else(zsum u W k).2+(sq u W k:Int)):=rfl
theorem Vx(u W:Nat):∀k,((zsum u W k).1:Rat)=sum (fun k=>cc k*(sq u W k:Rat)) k/\((zsum u W k).2:Rat)=sum (fun k=>ss k*(sq u W k:Rat)) k
 |0=>⟨rfl,rfl⟩
 |k+1=>by
  obtain⟨h1,h2⟩:=Vx u W k;rw[eB,eB,<-h1,<-h2,Hl];clear h1 h2;generalize zsum u W k=A;unfold cc ss;have h4:k%4=0\/k%4=1\/k%4=2\/k%4=3:=by omega
  rcases h4 with h |h |h |h
  ·have e:k%2=0:=by omega
   simp only[h,e,if_true,show((0:Nat)==2)=false from rfl,cond_false,show ¬(0:Nat)=1 by decide,show ¬(0:Nat)=3 by decide,if_false];rw[cKB,cIW];constructor <;> grind
  ·have e:¬k%2=0:=by omega
   simp only[h,e,if_true,show((1:Nat)==3)=false from rfl,cond_false,show ¬(1:Nat)=0 by decide,show ¬(1:Nat)=2 by decide,if_false];rw[cKB,cIW];constructor <;> grind
  ·have e:k%2=0:=by omega
   simp only[h,e,if_true,show((2:Nat)==2)=true from rfl,cond_true,show ¬(2:Nat)=0 by decide,show ¬(2:Nat)=1 by decide,show ¬(2:Nat)=3 by decide,if_false];rw[cMB,cIW];constructor <;> grind
  ·have e:¬k%2=0:=by omega
   simp only[h,e,if_true,show((3:Nat)==3)=true from rfl,cond_true,show ¬(3:Nat)=0 by decide,show ¬(3:Nat)=2 by decide,show ¬(3:Nat)=1 by decide,if_false];rw[cMB,cIW];constructor <;> grind
theorem aIU{u w k:Nat}(hu:u<=2^w)(hk:k<=w+1)(hz:sq u (2^w) k=0):zsum u (2^w) k=((xS u w:Int),(xR u w:Int)):=by
 obtain⟨h1,h2⟩:=Vx u (2^w) k;obtain⟨s1,s2⟩:=Lu hu;have tail:∀g:Nat->Rat,sum (fun i=>g i*(sq u (2^w) i:Rat)) (w+1)=sum (fun i=>g i*(sq u (2^w) i:Rat)) k:=by
  intro g;obtain⟨d,hd⟩:=bZS hk;rw[hd,lI,Fq (f:=fun i=>g (k+i)*(sq u (2^w) (k+i):Rat)) fun i _=>by rw[Lx hz];simp];grind
 rw[tail]at s1 s2;rw[<-s2]at h1;rw[<-s1]at h2;have e1:(zsum u (2^w) k).1=(xS u w:Int):=by exact_mod_cast h1
 have e2:(zsum u (2^w) k).2=(xR u w:Int):=by exact_mod_cast h2
 exact Prod.ext e1 e2
theorem Vy{u W:Nat}(hu:u<=W):∀k,(zsum u W k).1.natAbs<=k*W/\(zsum u W k).2.natAbs<=k*W
 |0=>⟨cEN _,cEN _⟩
 |k+1=>by
  obtain⟨h1,h2⟩:=Vy hu k;have hs:=Go.Proofs.YtcnlagnipklcmaaGreatDoor.W.TSums.xT hu k;have e:(k+1)*W=k*W+W:=by rw[bZH,Nat.one_mul]
  rw[e,Hl];generalize zsum u W k=A at *;split
  ·cases (k%4==2)
   ·rw[cond_false];dsimp only;omega
   ·rw[cond_true];dsimp only;omega
  ·cases (k%4==3)
   ·rw[cond_false];dsimp only;omega
   ·rw[cond_true];dsimp only;omega
end R
namespace M
open Go AI W
def h7(q:Nat):Nat:=THalvings.hlv q 400 8
def w7(q:Nat):Nat:=q+64+4*h7 q
def u7(y:Int)(q:Nat):Nat:=y.natAbs*2^(64+3*h7 q)
def aUG(y:Int)(q:Nat):Nat×Nat:=R.qD (2^w7 q) (h7 q) (TSums.xR (u7 y q) (w7 q)) (TSums.xS (u7 y q) (w7 q))
def Ec(y:Int)(q:Nat):Int:=zs (isNeg y) (aUG y q).1/((2^(w7 q-q):Nat):Int)
def Et(y:Int)(q:Nat):Int:=((aUG y q).2:Int)/((2^(w7 q-q):Nat):Int)
theorem aVN(q:Nat):8<=h7 q/\h7 q<=408:=by
 have:=aZ.Ua (q:Int) 400 8;unfold h7;omega
theorem aUA{y:Int}{q:Nat}(hy:y.natAbs<=2^q):2^h7 q*u7 y q<=2^w7 q:=by
 unfold u7 w7;have e:2^h7 q*(y.natAbs*2^(64+3*h7 q))=y.natAbs*2^(64+4*h7 q):=by
  rw[cGH,<-cDP];congr 2;omega
 rw[e,show q+64+4*h7 q=q+(64+4*h7 q) by omega,cDP 2 q];exact cAA _ hy
theorem aOB(z:Int):R.ab (z:Rat)=(z.natAbs:Rat):=by
 unfold R.ab
 by_cases hz:0<=z
 ·rw[if_pos (by exact_mod_cast hz),<-cIW];congr 1;omega
 ·rw[if_neg (by intro hc;exact hz (by exact_mod_cast hc)),<-cIW,<-cJG];congr 1;omega
theorem aQT{y:Int}{q:Nat}(hy:y.natAbs<=2^q)(hq:q<=140000){Y:Rat}(hY:Y*R.pz q=(y:Rat)) :
  R.ab ((Ec y q:Rat)-R.pz q*R.sn Y)<=3/2/\R.ab ((Et y q:Rat)-R.pz q*R.cs Y)<=3/2:=by
 obtain⟨a1,a2⟩:=aVN q;have hu:=aUA hy;have P:=R.dK (q:Int);have aY:R.ab Y*R.pz q=(y.natAbs:Rat):=by rw[<-aOB,<-hY,R.dV,R.bQ (cDU P)]
 have hT:R.ab Y*((2^w7 q:Nat):Rat)=((2^h7 q:Nat):Rat)*(u7 y q:Rat):=by
  unfold u7 w7;rw[show q+64+4*h7 q=q+(h7 q+(64+3*h7 q)) by omega,cDP,cDP 2 (h7 q),cFK,cFK,cFK,<-R.iS q,<-aY];grind
 obtain⟨r1,r2,T0,T1⟩:=R.Yl (j:=h7 q) (by omega) hu (by unfold w7;omega) (by unfold w7;omega) hT;have e1:R.qD (2^w7 q) (h7 q) (TSums.xR (u7 y q) (w7 q)) (TSums.xS (u7 y q) (w7 q))=aUG y q:=rfl;rw[e1]at r1 r2;obtain⟨K,hK⟩:∃K:Rat,K=((2^(w7 q-q):Nat):Rat):=⟨_,rfl⟩;have K0:(0:Rat)<((2^(w7 q-q):Nat):Rat):=by exact_mod_cast cBM (by decide)
 have eW:((2^w7 q:Nat):Rat)=K*R.pz q:=by
  rw[hK,R.iS,<-cFK,<-cDP];congr 2;unfold w7;omega
 have bE:((4^h7 q*(2*w7 q+10):Nat):Rat)*4<=K:=by
  rw[hK];have:4^h7 q*(2*w7 q+10)*4<=2^(w7 q-q):=by
   have h1:4^h7 q*(2*w7 q+10)<=2^(2*h7 q)*2^20:=by rw[R.Bo];exact cBB _ (by have:(2:Nat)^20=1048576:=rfl;unfold w7;omega)
   have h2:2^(2*h7 q)*2^20*4=2^(2*h7 q+22):=by rw[cDP 2 (2*h7 q) 22,show(2:Nat)^22=2^20*4 from rfl,cDQ]
   have h3:2^(2*h7 q+22)<=2^(w7 q-q):=cBN (by decide) (by unfold w7;omega);omega
  exact_mod_cast this
 rw[eW]at r1 r2;have fl:∀(z:Int) (v E:Rat),R.ab ((z:Rat)-K*R.pz q*v)<=E->E*4<=K->R.ab (((z/((2^(w7 q-q):Nat):Int):Int):Rat)-R.pz q*v)<=3/2:=by
  intro z v E h1 h2;obtain⟨c1,c2⟩:=yG (z:=z) (k:=w7 q-q);rw[<-hK]at c1 c2 K0;generalize ((z/((2^(w7 q-q):Nat):Int):Int):Rat)=d at *;rw[R.bY]at h1 ⊢;have e:K*R.pz q*v=K*(R.pz q*v):=by grind
  rw[e]at h1;generalize R.pz q*v=p at *;constructor
  ·refine R.bP K0 ?_;grind
  ·refine R.bP K0 ?_;grind
 constructor
 ·unfold Ec;refine fl _ _ _ ?_ bE;have esn:R.sn (R.ab Y)=R.ab (R.sn Y):=R.aAF T1;cases hn:isNeg y with
  |true =>
   have aLL:y<0:=jT.1 hn;have Yn:¬0<=Y:=by
    intro h;have:=R.aI h (cDU P);rw[hY]at this;have:(0:Int)<=y:=by exact_mod_cast this
    omega
   have eY:R.ab Y=-Y:=by unfold R.ab;rw[if_neg Yn]
   rw[eY,R.Ay]at r1;show R.ab (((-((aUG y q).1:Int):Int):Rat)-_)<=_;rw[cJG,cIW,<-R.iL];have e:-(-((aUG y q).1:Rat)-K*R.pz q*R.sn Y)=((aUG y q).1:Rat)-K*R.pz q*-R.sn Y:=by grind
   rw[e];exact r1
  |false =>
   have aLL:0<=y:=fN.1 hn;have Yp:0<=Y:=by
    refine R.bP P ?_;have:(0:Rat)<=(y:Rat):=by exact_mod_cast aLL
    grind
   rw[R.bQ Yp]at r1;show R.ab ((((aUG y q).1:Int):Rat)-_)<=_;rw[cIW];exact r1
 ·unfold Et;refine fl _ _ _ ?_ bE;rw[R.aBS]at r2;rw[cIW];exact r2
end M
namespace W
open Go AI M
namespace Mk
def E:=mE [(134,Norm.aJ)] 16 [] [] []
def aF:=bd f140
theorem aU:Nk E aF:=nk
theorem start a b:aG E f140 aF [D.s (sc (bool a)),D.s (ints u32 b)]=letI A:=dg (val b);aN (bM b/\b.length<=4398046511104) (aC a (some [D.agg [sc (bool (decide (0<(A.length:Int)))),ints u32 A]]) (some [D.agg [sc (bool false),ints u32 A]])):=eJ aU
def sp(b:Bool)(m:List Int):Prop×List D:=(bM m/\m.length<=4398046511104,[zD (zs b (val m))])
theorem spec:fF E f140 aF pB (pI .u32) sp:=by
 intro b m h;refine(start b m).trans ((gP h).trans ?_);unfold sp;simp only[bCE];cases b with
 |false=>rfl
 |true =>
  rw[bT];have:decide (0<((dg (val m)).length:Int))=decide (val m≠0):=by
   by_cases h:val m=0
   ·rw[h,cL];rfl
   ·rw[dqT h,dqT];have:(dg (val m)).length≠0:=fun hh=>h (fZ.1 hh)
    omega
  rw[this];rfl
def aJ:dO:=orc2 pB (pI .u32) sp
theorem ok:OK 140 aJ:=(eI E aF (aA Norm.ok aD) func140).jZ rfl spec
end Mk
namespace Bv
def E:=mE [(140,Mk.aJ),(181,aQA.aJ)] 12 [] [] []
def aF:=bd f136
theorem aU:Nk E aF:=nk
theorem start a c b:aG E f136 aF [D.agg [sc (bool a),ints u32 c],D.s (sc (int i64 b))]=letI A:=dg (val c*(2:Nat)^b.toNat);aN (cO c/\c.length<=1099511627776/\b<=1099511627776) (aN (bM A/\A.length<=4398046511104) (some [D.agg [sc (bool (isNeg (zs a (val A)))),ints u32 (dg (zs a (val A)).natAbs)]])):=eJ aU
def sp(x:Bool×List Int)(k:Int):Prop×List D:=(dS x/\k<=1099511627776,[zD (zv x*2^k.toNat)])
theorem spec:fF E f136 aF nT (pN .i64) sp:=by
 intro x k h;refine(start x.1 x.2 k).trans ?_;obtain⟨hx,hk⟩:=h;have l1:=hx.len;have l2:=zG (val x.2) k.toNat;rw[kY hx.1]at l2;rw[gP ⟨hx.1,by omega,hk⟩,gP ⟨cA _,by omega⟩,bD];show _=some [zD (zv x*2^k.toNat)];have:zs x.1 (val x.2*2^k.toNat)=zv x*2^k.toNat:=by
  unfold zv zs;cases x.1 <;> simp[cEW,Int.natCast_pow,cHX]
 rw[this];rfl
def aJ:dO:=orc2 nT (pN .i64) sp
theorem ok:OK 136 aJ:=(eI E aF (aA Mk.ok (aA aQA.ok aD)) func136).jZ rfl spec
end Bv
namespace bAC
def E:=mE [(134,Norm.aJ),(142,wP.aJ),(228,pJ.aJ)] 29 [10,16,25] [] []
def aF:=bd f202
theorem aU:Nk E aF:=nk
theorem start a b:aG E f202 aF [D.s (ints u32 a),D.s (sc (int i64 b))]=letI F:=b.tdiv 32;letI C:=(a.length:Int);letI B:=(↑((2:Nat)^min (b.tmod 32).toNat 32):Int);letI A:=cEH (i64.wrap F).toNat (cEG C.toNat a);aC (decide (b<=0)) (aN (bM a/\a.length<=4398046511104) (some [D.own 156 u32 (dg (val a))])) (aC (decide (C<=i64.wrap F)) (aN ((0:Int)<=(0:Int)/\(0:Int)<(18446744073709551616:Int)) (some [D.own 156 u32 (dg 0)])) (if 0<=i64.wrap F/\i64.wrap F<=C/\C<=C then if b.tmod 32<(0:Int)then none else aN (bM A/\A.length<=1099511627776/\0<u32.wrap ((1:Int)*B)/\u32.wrap ((1:Int)*B)<4294967296) (some [D.own 156 u32 (dg (val A/(u32.wrap ((1:Int)*B)).toNat))])else none)):=eJ aU
def sp(a:List Int)(n:Int):Prop×List D:=(bM a/\a.length<=1099511627776/\n<9223372036854775808,[.own kX .u32 (dg (val a/2^n.toNat))])
theorem spec:fF E f202 aF (pI .u32) (pN .i64) sp:=by
 rintro a n ⟨ha,h1,h2⟩;refine(start a n).trans ?_;show _=some [D.own kX .u32 (dg (val a/2^n.toNat))]
 by_cases hn:n<=0
 ·rw[aO hn,gP ⟨ha,by omega⟩,show n.toNat=0 from by omega,cIJ,cKC]
 ·have e1:(n%32).toNat=n.toNat%32:=by omega
  have e2:(n/32).toNat=n.toNat/32:=by omega
  rw[aM hn,aJP (by omega),aJK (by omega),wrap_i64 (n:=n/32)]
  by_cases hz:(a.length:Int)<=n/32
  ·rw[aO hz,gP ⟨by omega,by omega⟩,cEI];rw[xV];have h3:val a<4294967296^(n.toNat/32):=bZN (cR ha) (gO);have Na:0<2^(n.toNat%32):=cD;exact bZN h3 (Nat.le_mul_of_pos_right _ Na)
  ·have hp:2^(n.toNat%32)<2^32:=cFE (by omega) (by omega);have Na:0<2^(n.toNat%32):=cD;rw[aM hz,if_pos ⟨by omega,by omega,by omega⟩,bI,Lz (by omega) (by omega),cCJ,cFF,e1,e2];rw[gP ⟨ha.drop _,by rw[cCM];omega,by generalize 2^(n.toNat%32)=p at *;omega⟩,cCJ,iP ha,aHP]
def aJ:dO:=orc2 (pI .u32) (pN .i64) sp
theorem ok:OK 202 aJ:=(eI E aF (aA Norm.ok (aA wP.ok (aA pJ.ok aD))) func202).jZ rfl spec
end bAC
namespace bGC
def E:=mE [(142,wP.aJ),(134,Norm.aJ)] 42 [8,15,20,41] [(6,[0,1,5])] []
def aF:=bd f272
theorem aU:Nk E aF:=nk
def L6 a b (c:Nat) (d:List Int):=nU E f272 aF 6 [mP a,bJ b,(A.v (V.one (L.buf 2 c)),some { e:=(156:Nat),cont:=oH.ints u32 d })]
theorem start a b:aG E f272 aF [D.s (ints u32 a),D.s (sc (int i64 b))]=letI B:=b.tdiv 32;letI A:=cEH 0 (cEG (i64.wrap B).toNat a);aC (decide (b<=0)) (aN ((0:Int)<=(0:Int)/\(0:Int)<(18446744073709551616:Int)) (some [D.own 156 u32 (dg 0)])) (aC (decide ((a.length:Int)<=i64.wrap B)) (aN (bM a/\a.length<=4398046511104) (some [D.own 156 u32 (dg (val a))])) (if(0:Int)<=(0:Int)/\0<=i64.wrap B/\i64.wrap B<=(a.length:Int)then aN (bM A/\A.length<=4398046511104) (bGC.L6 a b (dg (val A)).length (dg (val A)))else none)):=eJ aU
theorem qW a b c d:L6 a b c d=letI G:=b.tdiv 32;letI C:=(↑((2:Nat)^min (b.tmod 32).toNat 32):Int);letI B:=a.getD (i64.wrap G).toNat 0;letI A:=u32.wrap ((1:Int)*C);letI F:=d ++ [B.tmod A];aC (decide ((c:Int)<i64.wrap G)) (if(0:Nat)<(1:Nat)/\(↑(d.length+1):Int)<=(8796093022208:Int)then bGC.L6 a b (d.length+1) (d ++ [(0:Int)])else none) (if 0<=i64.wrap G/\i64.wrap G<(a.length:Int)then if b.tmod 32<(0:Int)then none else if u32.wrap ((1:Int)*C)=0 then none else if(0:Nat)<[B.tmod A].length/\(↑(d.length+[B.tmod A].length):Int)<=(8796093022208:Int)then aN (bM F/\F.length<=4398046511104) (some [D.own 156 u32 (dg (val F))])else none else none):=lJ aU
theorem L{a:List Int}(ha:bM a)(hl:a.length<=1099511627776){n:Int}(h0:0<=n)(hn:n/32<a.length){v:Nat}(hv:val (a.take (n.toNat/32))=v):∀(d:Nat) (xs:List Int),xs.length+d=n.toNat/32->bM xs->val xs=v ->
  L6 a n xs.length xs=some [D.own kX .u32 (dg (val a%2^n.toNat))]:=by
 have t1:n.tdiv 32=n/32:=cFZ (by omega);have t2:n.tmod 32=n%32:=cGA (by omega);intro d
 induction d with
 |zero =>
  intro xs hd hx aXQ;have g:=ha.get (n.toNat/32);have hp:2^(n.toNat%32)<2^32:=cFE (by omega) (by omega);have Na:0<2^(n.toNat%32):=cD;have e1:(n%32).toNat=n.toNat%32:=by omega
  have e2:(n/32).toNat=n.toNat/32:=by omega
  rw[qW,t1,t2,wrap_i64 (n:=n/32),aM,aR,bI,Lz (by omega) (by omega),e1,e2,bI,if_pos (by simp;omega)];have em:(a.getD (n.toNat/32) 0).tmod ((2^(n.toNat%32):Nat):Int)=(((a.getD (n.toNat/32) 0).toNat%2^(n.toNat%32):Nat):Int):=by
   rw[cGA g.1,cFC,cKI g.1]
  have jM:=cAV (a.getD (n.toNat/32) 0).toNat Na;rw[em,gP ⟨kV hx (by omega),by simp;omega⟩,kT,aXQ,cCJ];have key:val a%2^n.toNat=v+4294967296^xs.length*((a.getD (n.toNat/32) 0).toNat%2^(n.toNat%32)):=by
   have h1:=fD a (n:=n.toNat/32) (by omega);have h2:=fY ha (n.toNat/32);rw[hv]at h1 h2;rw[h1,gH,xV n.toNat,show xs.length=n.toNat/32 by omega];generalize 4294967296^(n.toNat/32)=B at *;rw[Nat.mod_mul,cKE,cIT h2,cFB _ _ (by omega),cEI h2,bYP];have:4294967296*val (a.drop (n.toNat/32+1))=2^(n.toNat%32)*(2^(32-n.toNat%32)*val (a.drop (n.toNat/32+1))):=by
    rw[<-cDQ,<-cDP,show n.toNat%32+(32-n.toNat%32)=32 by omega]
   rw[this,cKE]
  rw[key]
 |succ d ih =>
  intro xs hd hx aXQ;rw[qW,t1,wrap_i64 (n:=n/32),aO,aR];have bBI:(xs ++ [(0:Int)]).length=xs.length+1:=by simp
  rw[<-bBI];refine ih _ (by rw[bBI];omega) (kV hx (by omega)) ?_;rw[kT,aXQ];simp
def sp(a:List Int)(n:Int):Prop×List D:=(bM a/\a.length<=1099511627776/\-9223372036854775808<=n/\n<9223372036854775808,[.own kX .u32 (dg (val a%2^n.toNat))])
theorem spec:fF E f272 aF (pI .u32) (pN .i64) sp:=by
 rintro a n ⟨ha,hl,h1,h2⟩;refine(start a n).trans ?_;show _=some [D.own kX .u32 (dg (val a%2^n.toNat))]
 by_cases h0:n<=0
 ·rw[aO h0,gP ⟨by omega,by omega⟩,show n.toNat=0 by omega,cIJ,Nat.mod_one]
 ·have t1:n.tdiv 32=n/32:=cFZ (by omega);rw[aM h0,t1,wrap_i64 (n:=n/32)]
  by_cases hc:(a.length:Int)<=n/32
  ·have jM:val a<2^n.toNat:=bZN (cR ha) (by rw[Ji];exact cBN (by decide) (by omega));rw[aO hc,gP ⟨ha,by omega⟩,cIT jM]
  ·have e2:(n/32).toNat=n.toNat/32:=by omega
   have hlen:=lZ (ha.take (n.toNat/32));rw[cBD]at hlen;rw[aM hc,aR,e2,cER,gP ⟨ha.take _,by rw[cBD];omega⟩];exact L ha hl (by omega) (by omega) rfl (n.toNat/32-(dg (val (a.take (n.toNat/32)))).length) _ (by omega) (cA _) (bD _)
def aJ:dO:=orc2 (pI .u32) (pN .i64) sp
theorem ok:OK 272 aJ:=(eI E aF (aA wP.ok (aA Norm.ok aD)) func272).jZ rfl spec
end bGC
namespace Vc
def E:=mE [(140,Mk.aJ),(141,Add.aJ),(237,aPG.aJ),(238,Sub.aJ)] 40 [] [] []
def aF:=bd f215
theorem aU:Nk E aF:=nk
theorem start a b c d:aG E f215 aF [D.agg [sc (bool a),ints u32 b],D.agg [sc (bool c),ints u32 d]]=letI F:=dg (val d-val b);letI C:=dg (val b-val d);letI B:=dg (val b+val d);letI A:=cO b/\cO d/\b.length<=4398046511104/\d.length<=4398046511104;aC (a==c) (aN (bM b/\bM d/\b.length<=1099511627776/\d.length<=1099511627776) (aN (bM B/\B.length<=4398046511104) (some [D.agg [sc (bool (isNeg (zs a (val B)))),ints u32 (dg (zs a (val B)).natAbs)]]))) (aN A (aC (decide (0<=iW (val b) (val d))) (aN A (aN (bM C/\C.length<=4398046511104) (some [D.agg [sc (bool (isNeg (zs a (val C)))),ints u32 (dg (zs a (val C)).natAbs)]]))) (aN (cO d/\cO b/\d.length<=4398046511104/\b.length<=4398046511104) (aN (bM F/\F.length<=4398046511104) (some [D.agg [sc (bool (isNeg (zs c (val F)))),ints u32 (dg (zs c (val F)).natAbs)]]))))):=eJ aU
def sp(x y:Bool×List Int):Prop×List D:=(dS x/\dS y,[zD (zv x+zv y)])
theorem spec:fF E f215 aF nT nT sp:=by
 intro x y h;refine(start x.1 x.2 y.1 y.2).trans ?_;obtain⟨hx,hy⟩:=h;have l1:=hx.len;have l2:=hy.len;have l3:=wF (val x.2) (val y.2);have l4:=zF (val x.2) (val y.2);have l5:=zF (val y.2) (val x.2);rw[kY hx.1,kY hy.1]at l3;rw[kY hx.1]at l4;rw[kY hy.1]at l5;simp only[bD];show _=some [zD (zv x+zv y)];rw[gP ⟨hx.1.iA,hy.1.iA,by omega,by omega⟩,gP ⟨cA _,by omega⟩,gP ⟨hx.1,hy.1,by omega,by omega⟩,gP ⟨hx.1,hy.1,by omega,by omega⟩,gP ⟨cA _,by omega⟩,gP ⟨hy.1,hx.1,by omega,by omega⟩,gP ⟨cA _,by omega⟩]
 by_cases he:x.1=y.1
 ·rw[Uw (by rw[he];simp)];have:zs x.1 (val x.2+val y.2)=zv x+zv y:=by
   unfold zv zs;rw[<-he];cases x.1 <;> simp <;> omega
  rw[this];rfl
 ·rw[Nz (by simpa using he)]
  by_cases hc:val y.2<=val x.2
  ·rw[aO (Lc.2 hc)];have:zs x.1 (val x.2-val y.2)=zv x+zv y:=by
    unfold zv zs;cases h1:x.1 <;> cases h2:y.1 <;> simp_all <;> omega
   rw[this];rfl
  ·rw[aM (fun h=>hc (Lc.1 h))];have:zs y.1 (val y.2-val x.2)=zv x+zv y:=by
    unfold zv zs;cases h1:x.1 <;> cases h2:y.1 <;> simp_all <;> omega
   rw[this];rfl
def aJ:dO:=orc2 nT nT sp
theorem ok:OK 215 aJ:=(eI E aF (aA Mk.ok (aA Add.ok (aA aPG.ok (aA Sub.ok aD)))) func215).jZ rfl spec
end Vc
namespace Jb
def E:=mE [(140,Mk.aJ)] 9 [] [] []
def aF:=bd f216
theorem aU:Nk E aF:=nk
theorem start a b:aG E f216 aF [D.agg [sc (bool a),ints u32 b]]=aN (bM b/\b.length<=4398046511104) (some [D.agg [sc (bool (isNeg (zs (!a) (val b)))),ints u32 (dg (zs (!a) (val b)).natAbs)]]):=eJ aU
def sp(x:Bool×List Int):Prop×List D:=(dS x,[zD (-zv x)])
theorem spec:iH E f216 aF nT sp:=by
 intro x h;refine(start x.1 x.2).trans ((gP ⟨h.1.iA,by have:=h.len;omega⟩).trans ?_);show _=some [zD (-zv x)];have:zs (!x.1) (val x.2)=-zv x:=by unfold zv zs;cases x.1 <;> simp
 rw[this];rfl
def aJ:dO:=orc1 nT sp
theorem ok:OK 216 aJ:=(eI E aF (aA Mk.ok aD) func216).oV rfl spec
end Jb
namespace Bt
def E:=mE [(215,Vc.aJ),(216,Jb.aJ)] 9 [] [] []
def aF:=bd f183
theorem aU:Nk E aF:=nk
theorem start a b c d:aG E f183 aF [D.agg [sc (bool a),ints u32 b],D.agg [sc (bool c),ints u32 d]]=letI A:=(isNeg (-zv (c,d)),dg (-zv (c,d)).natAbs);aN (dS (c,d)) (aN (dS (a,b)/\dS A) (some [D.agg [sc (bool (isNeg (zv (a,b)+zv A))),ints u32 (dg (zv (a,b)+zv A).natAbs)]])):=eJ aU
def sp(x y:Bool×List Int):Prop×List D:=(dS x/\dS y,[zD (zv x-zv y)])
theorem spec:fF E f183 aF nT nT sp:=by
 intro x y h;refine(start x.1 x.2 y.1 y.2).trans ?_;obtain⟨hx,hy⟩:=h;have l2:=hy.len;rw[gP hy,gP ⟨hx,qA (by rw[cGD,kQ,kY hy.1];exact l2)⟩,jD];show _=some [zD (zv x-zv y)];rw[Int.sub_eq_add_neg];rfl
def aJ:dO:=orc2 nT nT sp
theorem ok:OK 183 aJ:=(eI E aF (aA Vc.ok (aA Jb.ok aD)) func183).jZ rfl spec
end Bt
namespace aCC
def E:=mE [(140,Mk.aJ),(141,Add.aJ),(142,wP.aJ)] 17 [] [] []
def aF:=bd f89
theorem aU:Nk E aF:=nk
theorem start a:aG E f89 aF [D.s (sc (int i64 a))]=letI F:=dg (u64.wrap a).toNat;letI B:=i64.wrap ((0:Int)-i64.wrap (a+1));letI A:=dg (u64.wrap B).toNat;letI C:=dg (val A+val (dg 1));aC (decide (a<0)) (aN (0<=u64.wrap B/\u64.wrap B<18446744073709551616) (aN ((0:Int)<=(1:Int)/\(1:Int)<(18446744073709551616:Int)) (aN (bM A/\bM (dg 1)/\A.length<=1099511627776/\(dg 1).length<=1099511627776) (aN (bM C/\C.length<=4398046511104) (some [D.agg [sc (bool (isNeg (zs true (val C)))),ints u32 (dg (zs true (val C)).natAbs)]]))))) (aN (0<=u64.wrap a/\u64.wrap a<18446744073709551616) (aN (bM F/\F.length<=4398046511104) (some [D.agg [sc (bool (isNeg (zs false (val F)))),ints u32 (dg (zs false (val F)).natAbs)]]))):=eJ aU
def sp(a:Int):Prop×List D:=(-9223372036854775808<=a/\a<9223372036854775808,[zD a])
theorem aEJ{n:Nat}(h:n<18446744073709551616):(dg n).length<=2:=cU (by simpa using h)
theorem spec:iH E f89 aF (pN .i64) sp:=by
 rintro a ⟨h1,h2⟩;refine(start a).trans ?_;show _=some [zD a];simp only[bD]
 by_cases hn:a<0
 ·have e:u64.wrap (i64.wrap (0-i64.wrap (a+1)))=-(a+1):=by
   rw[wrap_i64 (n:=a+1),wrap_i64,wrap_u64];omega
  have l1:=aEJ (n:=(-(a+1)).toNat) (by omega);have l2:=aEJ (n:=(-(a+1)).toNat+1) (by omega);have l3:=aEJ (n:=1) (by omega);rw[aO hn,e,gP ⟨by omega,by omega⟩,gP ⟨by omega,by omega⟩,gP ⟨cA _,cA _,by omega,by omega⟩,gP ⟨cA _,by omega⟩];have ez:zs true ((-(a+1)).toNat+1)=a:=by unfold zs;simp only[cond_true];omega
  rw[ez];rfl
 ·have l1:=aEJ (n:=a.toNat) (by omega);rw[aM hn,wrap_u64,gP ⟨by omega,by omega⟩,gP ⟨cA _,by omega⟩];have ez:zs false a.toNat=a:=by unfold zs;simp only[cond_false];omega
  rw[ez];rfl
def aJ:dO:=orc1 (pN .i64) sp
theorem ok:OK 89 aJ:=(eI E aF (aA Mk.ok (aA Add.ok (aA wP.ok aD))) func89).oV rfl spec
end aCC
namespace nP
def E:=mE [(140,Mk.aJ),(202,bAC.aJ),(272,bGC.aJ),(183,Bt.aJ),(89,aCC.aJ)] 34 [] [] []
def aF:=bd f257
theorem aU:Nk E aF:=nk
theorem start a c b:aG E f257 aF [D.agg [sc (bool a),ints u32 c],D.s (sc (int i64 b))]=letI C:=dg (val c/(2:Nat)^b.toNat);letI A:=zs a (val C);letI G:=(isNeg A,dg A.natAbs);letI F:=zv G-zv (isNeg 1,dg 1);letI B:=some [D.agg [sc (bool (isNeg A)),ints u32 (dg A.natAbs)]];aC (decide (b<=0)) (aN (bM c/\c.length<=4398046511104) (some [D.agg [sc (bool (isNeg (zs a (val c)))),ints u32 (dg (zs a (val c)).natAbs)]])) (aN (bM c/\c.length<=1099511627776/\b<9223372036854775808) (aN (bM C/\C.length<=4398046511104) (aC a (aN (bM c/\c.length<=1099511627776/\(-9223372036854775808:Int)<=b/\b<9223372036854775808) (aC (decide (0<(↑(dg (val c%(2:Nat)^b.toNat)).length:Int))) (aN ((-9223372036854775808:Int)<=(1:Int)/\(1:Int)<(9223372036854775808:Int)) (aN (dS G/\dS (isNeg 1,dg 1)) (some [D.agg [sc (bool (isNeg F)),ints u32 (dg F.natAbs)]]))) B)) B))):=eJ aU
theorem Tk(v q:Nat)(hq:0<q):(-(v:Int))/(q:Int)=if v%q=0 then -((v/q:Nat):Int)else -((v/q:Nat):Int)-1:=by
 have hd:=cDT v q;have hm:=cAV v hq
 by_cases h:v%q=0
 ·rw[if_pos h];have e:-(v:Int)=(q:Int)*(-((v/q:Nat):Int)):=by
   rw[cHI,<-cEW];generalize q*(v/q)=t at *;omega
  rw[e,Int.mul_ediv_cancel_left _ (by omega)]
 ·rw[if_neg h];have e:-(v:Int)=((q-v%q:Nat):Int)+(q:Int)*(-((v/q:Nat):Int)-1):=by
   rw[Int.mul_sub,cHI,<-cEW,cLQ];generalize q*(v/q)=t at *;generalize v%q=r at *;omega
  rw[e,Int.add_mul_ediv_left _ _ (by omega),Int.ediv_eq_zero_of_lt (by omega) (by omega)];omega
def sp(x:Bool×List Int)(n:Int):Prop×List D:=(dS x/\-9223372036854775808<=n/\n<9223372036854775808,[zD (zv x/((2^n.toNat:Nat):Int))])
theorem spec:fF E f257 aF nT (pN .i64) sp:=by
 rintro x n ⟨hx,h1,h2⟩;refine(start x.1 x.2 n).trans ?_;have l1:=hx.len;have hc:=hx.cells;show _=some [zD (zv x/((2^n.toNat:Nat):Int))];have hp:0<2^n.toNat:=cBM (by decide)
 by_cases h0:n<=0
 ·rw[aO h0,gP ⟨hx.1.iA,by omega⟩,show n.toNat=0 by omega];show some [zD (zv x)]=_;rw[show zv x/((2^0:Nat):Int)=zv x by rw[cIJ];omega]
 ·have hq:=wB (val x.2) (2^n.toNat);rw[kY hx.1]at hq;rw[aM h0,gP ⟨hx.1.iA,by omega,h2⟩,gP ⟨cA _,by omega⟩,bD];obtain⟨b,a⟩:=x
  try dsimp only at *
  cases b with
  |false =>
   rw[bF];have:zv (false,a)/((2^n.toNat:Nat):Int)=zs false (val a/2^n.toNat):=by
    rw[show zv (false,a)=(val a:Int)from rfl,<-cEA];rfl
   rw[this];rfl
  |true =>
   rw[bT,gP ⟨hx.1.iA,by omega,h1,h2⟩];have hz:zv (true,a)=-(val a:Int):=rfl;have e:=Tk (val a) (2^n.toNat) hp;have hl:(0:Int)<((dg (val a%2^n.toNat)).length:Int)↔val a%2^n.toNat≠0:=by
    have:=fZ (n:=val a%2^n.toNat);omega
   have aUV:dS (isNeg (zs true (val a/2^n.toNat)),dg (zs true (val a/2^n.toNat)).natAbs):=qA (by rw[nM];omega);rw[hz,e]
   by_cases hr:val a%2^n.toNat=0
   ·rw[aM (fun h=>hl.1 h hr),if_pos hr];rfl
   ·rw[aO (hl.2 hr),if_neg hr,gP ⟨by omega,by omega⟩,gP ⟨aUV,qA (z:=1) (by show(dg 1).length<=_;rw[Nq];simp)⟩,jD];have e1:zv (isNeg 1,dg 1)=1:=jD 1;rw[e1];rfl
def aJ:dO:=orc2 nT (pN .i64) sp
theorem ok:OK 257 aJ:=(eI E aF (aA Mk.ok (aA bAC.ok (aA bGC.ok (aA Bt.ok (aA aCC.ok aD))))) func257).jZ rfl spec
end nP
namespace nI
def E:=mE [(136,Bv.aJ),(257,nP.aJ)] 14 [] [] []
def aF:=bd f253
theorem aU:Nk E aF:=nk
theorem start a c b:aG E f253 aF [D.agg [sc (bool a),ints u32 c],D.s (sc (int i64 b))]=letI B:=zv (a,c)*(2:Int)^b.toNat;letI A:=zv (a,c)/(↑((2:Nat)^(i64.wrap ((0:Int)-b)).toNat):Int);aC (decide (0<=b)) (aN (dS (a,c)/\b<=1099511627776) (some [D.agg [sc (bool (isNeg B)),ints u32 (dg B.natAbs)]])) (aN (dS (a,c)/\(-9223372036854775808:Int)<=i64.wrap ((0:Int)-b)/\i64.wrap ((0:Int)-b)<9223372036854775808) (some [D.agg [sc (bool (isNeg A)),ints u32 (dg A.natAbs)]])):=eJ aU
def aAJ(m e:Int):Int:=if 0<=e then m*2^e.toNat else m/((2^(-e).toNat:Nat):Int)
def sp(x:Bool×List Int)(e:Int):Prop×List D:=(dS x/\-1099511627776<=e/\e<=1099511627776,[zD (aAJ (zv x) e)])
theorem spec:fF E f253 aF nT (pN .i64) sp:=by
 rintro x e ⟨hx,h0,h1⟩;refine(start x.1 x.2 e).trans ?_;unfold sp aAJ;dsimp only
 by_cases c:0<=e
 ·rw[aO c,gP ⟨hx,h1⟩,if_pos c];rfl
 ·have w:i64.wrap (0-e)=-e:=by rw[wrap_i64];omega
  rw[aM c,w,gP ⟨hx,by omega,by omega⟩,if_neg c];rfl
def aJ:dO:=orc2 nT (pN .i64) sp
theorem ok:OK 253 aJ:=(eI E aF (aA Bv.ok (aA nP.ok aD)) func253).jZ rfl spec
end nI
namespace Mul
def E:=mE [(134,Norm.aJ)] 70 [69] [(8,[0,1,5,6,7,8,9]),(3,[0,1,5,6])] []
def aF:=bd f273
theorem aU:Nk E aF:=nk
def L3 a b (c:Nat) (d:List Int) f:=nU E f273 aF 3 [mP a,mP b,(A.v (V.one (L.buf 2 c)),some { e:=(156:Nat),cont:=oH.ints u32 d }),bJ f]
def L8 a b (c:Nat) (d:List Int) f g h x7:=nU E f273 aF 8 [mP a,mP b,(A.v (V.one (L.buf 2 c)),some { e:=(156:Nat),cont:=oH.ints u32 d }),bJ f,dR g,dR h,bJ x7]
theorem start a b:aG E f273 aF [D.s (ints u32 a),D.s (ints u32 b)]=letI A:=(a.length:Int);letI B:=A+(b.length:Int);if 0<=i64.wrap B/\i64.wrap B<=i64.wrap B/\i64.wrap B<=8796093022208 then Mul.L3 a b (i64.wrap B).toNat (cAQ (i64.wrap B).toNat (0:Int)) 0 else none:=eJ aU
theorem pE a b c d e:L3 a b c d e=aC (decide (e<(a.length:Int))) (if 0<=e/\e<(a.length:Int)then Mul.L8 a b c d e 0 (u64.wrap (a.getD e.toNat 0)) 0 else none) (aN (bM d/\d.length<=4398046511104) (some [D.own 156 u32 (dg (val d))])):=lJ aU
theorem yM a b c d e f g h:L8 a b c d e f g h=letI B:=(b.length:Int);letI A:=f+u64.wrap (u64.wrap (d.getD (i64.wrap (e+h)).toNat 0)+u64.wrap (g*u64.wrap (b.getD h.toNat 0)));aC (decide (h<B)) (if 0<=i64.wrap (e+h)/\i64.wrap (e+h)<(c:Int)then if 0<=h/\h<B then if 0<=i64.wrap (e+h)/\i64.wrap (e+h)<(c:Int)then Mul.L8 a b c (d.set (i64.wrap (e+h)).toNat (u32.wrap (gR BinOp.and u64 (u64.wrap A) 4294967295))) e (u64.wrap A/4294967296) g (i64.wrap (h+1))else none else none else none) (if 0<=i64.wrap (e+B)/\i64.wrap (e+B)<(c:Int)then Mul.L3 a b c (d.set (i64.wrap (e+B)).toNat (u32.wrap f)) (i64.wrap (e+1))else none):=lJ aU
theorem lW{a:List Int}{n:Nat}(h:n<a.length)(d:Int):val (a.set n d)+4294967296^n*(a.getD n 0).toNat=val a+4294967296^n*d.toNat:=by
 have h1:=fD (a.set n d) (n:=n) (by rw[cMR];omega);have h2:=fD a (n:=n) (by omega);rw[cJB (bYN n),nW h]at h1;rw[gH]at h2;rw[h1,h2,cDN,cDN];omega
theorem Xy{a:List Int}{n m:Nat}(h:n≠m)(d:Int):(a.set n d).getD m 0=a.getD m 0:=by
 simp only[cDR];rw[List.getElem?_set_ne h]
theorem inner{a b:List Int}(hb:bM b)(aPS:a.length<=549755813888)(bKK:b.length<=549755813888){i:Nat}(hi:i<a.length){x:Int}(Ku:0<=x)(aUW:x<4294967296){V:Nat}
  (K:List Int->Option (List D)) (hK:∀p c,bM p->p.length=a.length+b.length->(0<=c/\c<4294967296)->(∀k,i+b.length<=k->p.getD k 0=0)->val p+4294967296^(i+b.length)*c.toNat=V+4294967296^i*(x.toNat*val b)->L3 a b (a.length+b.length) (p.set (i+b.length) c) ((i+1:Nat):Int)=K p) :
  ∀(d j:Nat) (p:List Int) (c:Int),bM p->p.length=a.length+b.length->0<=c->c<4294967296->(∀k,i+b.length<=k->p.getD k 0=0)->j+d=b.length ->
  val p+4294967296^(i+j)*c.toNat=V+4294967296^i*(x.toNat*val (b.take j)) ->
  ∃q,L8 a b (a.length+b.length) p (i:Int) c x (j:Int)=K q:=by
 intro d
 induction d with
 |zero =>
  intro j p c hp hl h0 h1 hz hd hv;have hj:j=b.length:=by omega
  subst hj;rw[cFF]at hv;rw[yM,aM,wrap_i64 (n:=(i:Int)+(b.length:Int)),aR,wrap_u32,Int.emod_eq_of_lt h0 h1,wrap_i64 (n:=(i:Int)+1),show((i:Int)+(b.length:Int)).toNat=i+b.length by omega];exact⟨p,hK p c hp hl ⟨h0,h1⟩ hz hv⟩
 |succ d ih =>
  intro j p c hp hl h0 h1 hz hd hv;have g1:=hb.get j;have g2:=hp.get (i+j);have hm:x*b.getD j 0<=4294967295*4294967295:=by
   have h1:x*b.getD j 0<=4294967295*b.getD j 0:=Int.mul_le_mul_of_nonneg_right (by omega) g1.1;omega
  have aSA:0<=x*b.getD j 0:=cKF Ku g1.1;have e':((i:Int)+(j:Int)).toNat=i+j:=by omega
  rw[yM,aO,wrap_i64 (n:=(i:Int)+(j:Int)),aR,aR,aR,e',cCJ,wrap_u64 (n:=p.getD (i+j) 0),wrap_u64 (n:=b.getD j 0),wrap_u64 (n:=x*b.getD j 0),wrap_u64 (n:=p.getD (i+j) 0+x*b.getD j 0),wrap_u64 (n:=c+(p.getD (i+j) 0+x*b.getD j 0)),
   kR (by omega) (by omega),wrap_u32,Int.emod_emod_of_dvd _ (Int.dvd_refl _),wrap_i64 (n:=(j:Int)+1)]
  have hs:=lW (a:=p) (n:=i+j) (by omega) ((c+(p.getD (i+j) 0+x*b.getD j 0))%4294967296);refine ih (j+1) _ _ (kM hp (by omega)) (by rw[cMR];exact hl) (by omega) (by omega) (fun k hk=>by rw[Xy (by omega)];exact hz k hk) (by omega) ?_;rw[bR,cDN];have et:(x*b.getD j 0).toNat=x.toNat*(b.getD j 0).toNat:=Int.toNat_mul Ku g1.1;have e:4294967296*((c+(p.getD (i+j) 0+x*b.getD j 0))/4294967296).toNat+((c+(p.getD (i+j) 0+x*b.getD j 0))%4294967296).toNat=c.toNat+((p.getD (i+j) 0).toNat+x.toNat*(b.getD j 0).toNat):=by rw[<-et];omega
  have pw:4294967296^(i+(j+1))=4294967296^(i+j)*4294967296:=by rw[<-cCD,cDL]
  have pi:4294967296^i*(x.toNat*(4294967296^j*(b.getD j 0).toNat))=4294967296^(i+j)*(x.toNat*(b.getD j 0).toNat):=by
   rw[cDP,cGH x.toNat,<-cDQ]
  rw[pw,cDN,pi];generalize 4294967296^(i+j)=B at *;generalize (c+(p.getD (i+j) 0+x*b.getD j 0))/4294967296=u at *;generalize (c+(p.getD (i+j) 0+x*b.getD j 0))%4294967296=w at *;have e2:=congrArg (B*·) e;rw[cDN,cDN,cDN]at e2;rw[cDQ];omega
theorem outer{a b:List Int}(ha:bM a)(hb:bM b)(aPS:a.length<=549755813888)(bKK:b.length<=549755813888):∀(d i:Nat) (p:List Int),bM p->p.length=a.length+b.length->(∀k,i+b.length<=k->p.getD k 0=0)->i+d=a.length->val p=val (a.take i)*val b ->
  L3 a b (a.length+b.length) p (i:Int)=some [D.own kX .u32 (dg (val a*val b))]:=by
 intro d
 induction d with
 |zero =>
  intro i p hp hl hz hd hv;rw[pE,aM,gP ⟨hp,by omega⟩,hv,cC (by omega)]
 |succ d ih =>
  intro i p hp hl hz hd hv;have g:=ha.get i;rw[pE,aO,aR,cCJ,wrap_u64 (n:=a.getD i 0)];obtain⟨q,hq⟩:=inner (a:=a) (b:=b) hb aPS bKK (i:=i) (by omega) g.1 g.2 (V:=val p) (fun _=>some [D.own kX .u32 (dg (val a*val b))]) (by
   intro q c hq bGZ hc bOV bTV;have g3:=bOV (i+b.length) (bYN _);have hs:=lW (a:=q) (n:=i+b.length) (by omega) c;rw[g3,show(0:Int).toNat=0 from rfl,cFH,bZO,bTV]at hs;refine ih (i+1) _ (kM hq hc) (by rw[cMR];exact bGZ) (fun k hk=>by rw[Xy (by omega)];exact bOV k (by omega)) (by omega) ?_;rw[hs,hv,bR,bZH,cDQ]) b.length 0 p 0 hp hl (by omega) (by omega) hz (by omega) (by simp[val])
  exact hq
def sp(a b:List Int):Prop×List D:=(bM a/\bM b/\a.length<=549755813888/\b.length<=549755813888,[.own kX .u32 (dg (val a*val b))])
theorem spec:fF E f273 aF (pI .u32) (pI .u32) sp:=by
 rintro a b ⟨ha,hb,h1,h2⟩;refine(start a b).trans ?_;have e:i64.wrap ((a.length:Int)+(b.length:Int))=((a.length+b.length:Nat):Int):=by rw[wrap_i64];omega
 rw[e,aR,cCJ];refine outer ha hb h1 h2 a.length 0 _ (gU _) (by simp) (fun k _=>?_) (by omega) (by simp[val,iD]);simp only[cDR,List.getElem?_replicate];split <;> rfl
def aJ:dO:=orc2 (pI .u32) (pI .u32) sp
theorem ok:OK 273 aJ:=(eI E aF (aA Norm.ok aD) func273).jZ rfl spec
end Mul
namespace aOC
def E:=mE [(273,Mul.aJ),(140,Mk.aJ)] 16 [] [] []
def aF:=bd f258
theorem aU:Nk E aF:=nk
theorem start a b c d:aG E f258 aF [D.agg [sc (bool a),ints u32 b],D.agg [sc (bool c),ints u32 d]]=letI A:=dg (val b*val d);letI B:=zs (a !=c) (val A);aN (bM b/\bM d/\b.length<=549755813888/\d.length<=549755813888) (aN (bM A/\A.length<=4398046511104) (some [D.agg [sc (bool (isNeg B)),ints u32 (dg B.natAbs)]])):=eJ aU
def sp(x y:Bool×List Int):Prop×List D:=(dS x/\dS y,[zD (zv x*zv y)])
theorem spec:fF E f258 aF nT nT sp:=by
 rintro x y ⟨hx,hy⟩;refine(start x.1 x.2 y.1 y.2).trans ?_;have l1:=hx.len;have l2:=hy.len;have hl:(dg (val x.2*val y.2)).length<=x.2.length+y.2.length:=by
  refine cU ?_;rw[cDP];exact Nat.mul_lt_mul_of_lt_of_lt (cR hx.1.iA) (cR hy.1.iA)
 rw[gP ⟨hx.1.iA,hy.1.iA,by omega,by omega⟩,gP ⟨cA _,by omega⟩,bD];show _=some [zD (zv x*zv y)];have:zs (x.1 !=y.1) (val x.2*val y.2)=zv x*zv y:=by
  unfold zv zs;cases x.1 <;> cases y.1 <;> simp[cEW,cHX,cHI]
 rw[this];rfl
def aJ:dO:=orc2 nT nT sp
theorem ok:OK 258 aJ:=(eI E aF (aA Mul.ok (aA Mk.ok aD)) func258).jZ rfl spec
end aOC
namespace Bu
def E:=mE [] 11 [] [] []
def aF:=bd f182
theorem aU:Nk E aF:=nk
theorem start a b:aG E f182 aF [D.agg [sc (bool a),ints u32 b]]=aC ((b.length:Int)==(0:Int)) (some [D.s (sc (int i64 0))]) (aC a (some [D.s (sc (int i64 (-1:Int)))]) (some [D.s (sc (int i64 1))])):=eJ aU
def sp(x:Bool×List Int):Prop×List D:=(dS x,[.s (.sc (.int .i64 (cZ (zv x) 0)))])
theorem spec:iH E f182 aF nT sp:=by
 intro x h;refine(start x.1 x.2).trans ?_;obtain⟨h1,h2,h3⟩:=h;unfold sp;simp only
 by_cases hz:x.2.length=0
 ·have:=(cY h1).1 hz;rw[dU];cases hx:x.1 with
  |true=>exact(h2 hx this).elim
  |false=>rw[Zw hx,this];rfl
 ·have hv:val x.2≠0:=fun h=>hz ((cY h1).2 h)
  rw[cP];cases hx:x.1 with
  |true=>rw[bT,aVU hx];unfold cZ;rw[aR]
  |false=>rw[bF,Zw hx];unfold cZ;rw[bI,aR]
def aJ:dO:=orc1 nT sp
theorem ok:OK 182 aJ:=(eI E aF aD func182).oV rfl spec
end Bu
end W
namespace M8
open Go M
def oP(n v:Nat):List Int:=dg v ++ cAQ (n-(dg v).length) 0
theorem lB{n v:Nat}:val (oP n v)=v:=by
 unfold oP;rw[iJ,iD,bD];omega
theorem mA{n v:Nat}:bM (oP n v):=lS.2 ⟨cA _,gU _⟩
theorem iG{n v:Nat}(h:v<4294967296^n):(oP n v).length=n:=by
 have:=cU h;unfold oP;rw[bZQ,cIX];omega
theorem oX {a : List Int} {n v : Nat} (h : bM a) (hl : a.length = n) (hv : val a = v) : a = oP n v := by
  subst hl; subst hv
  obtain ⟨k, hk⟩ := Er h
  unfold oP
  have : a.length = (dg (val a)).length + k := by conv => lhs; rw [hk]
                                                  simp
  rw [this, Nat.add_sub_cancel_left]
  exact hk
theorem lW{a:List Int}{j:Nat}(hj:j<a.length)(d:Int):val (a.set j d)+4294967296^j*(a.getD j 0).toNat=val a+4294967296^j*d.toNat:=by
 have h1:=fD (a.set j d) (n:=j) (by simp;omega);have h2:=fD a (n:=j) (by omega);rw[nW hj,cJB (bYN j)]at h1;rw[gH (a:=a) j]at h2;rw[h1,h2,cDN,cDN];omega
theorem qC{m n:Nat}(h:m<=n):4294967296^m<=4294967296^n:=cBN (by omega) h
theorem Bc{a:List Int}(h:cO a):∀k,cO (a.drop k)
 |0=>h
 |k+1=>by
  match a,h with
  | [],h=>simpa using h
  |d :: a,h=>exact Bc (Mo h) k
theorem mN{a:List Int}(h:bM a)(k:Nat):val (a.take k)=val a%4294967296^k:=by
 by_cases hk:k<=a.length
 ·rw[fD a hk,cKE,cIT (fY h k)]
 ·rw[cC (by omega),cIT];exact bZN (cR h) (qC (by omega))
theorem iP{a:List Int}(h:bM a)(k:Nat):val (a.drop k)=val a/4294967296^k:=by
 by_cases hk:k<=a.length
 ·have h1:=fD a hk;have h2:=fY h k;rw[h1,cFB _ _ (cD),cEI h2,bYP]
 ·rw[List.drop_of_length_le (by omega),cEI]
  ·rfl
  ·exact bZN (cR h) (qC (by omega))
theorem qO(v o n:Nat):v=v%4294967296^o+4294967296^o*(v/4294967296^o%4294967296^n)+4294967296^(o+n)*(v/4294967296^(o+n)):=by
 have h1:=cIV v (4294967296^o);have h2:=cIV (v/4294967296^o) (4294967296^n);rw[cEB,<-cDP]at h2
 conv=>lhs;rw[<-h1,<-h2]
 rw[cDN,<-cDQ,<-cDP];omega
theorem Ao{v v' o n X c:Nat}(h1:v'%4294967296^o=v%4294967296^o)(h2:v'/4294967296^(o+n)=v/4294967296^(o+n))(h:v'+4294967296^o*X=v+4294967296^(o+n)*c) :
  v'/4294967296^o%4294967296^n+X=v/4294967296^o%4294967296^n+4294967296^n*c:=by
 have e1:=qO v o n;have e2:=qO v' o n;rw[h1,h2]at e2;apply Nat.eq_of_mul_eq_mul_left (cBM (n:=o) (by omega:0<4294967296));have e3:4294967296^(o+n)*c=4294967296^o*(4294967296^n*c):=by rw[cDP,cDQ]
 rw[e3]at h;rw[cDN,cDN];omega
theorem Dy(v o n:Nat):v/4294967296^o%4294967296^n<4294967296^n:=cAV _ (cD)
theorem Ap{z z':List Int}(hd:bM z)(Bl:bM z'){o n:Nat}(h1:z'.take o=z.take o)(h2:z'.drop (o+n)=z.drop (o+n)):val z'%4294967296^o=val z%4294967296^o/\val z'/4294967296^(o+n)=val z/4294967296^(o+n):=by
 rw[<-mN hd,<-mN Bl,h1,<-iP hd,<-iP Bl,h2];exact⟨rfl,rfl⟩
end M8
namespace W
open Go AI M
namespace Fg
def E:=mE [] 25 [] [(5,[3,4])] []
def aF:=bd f84
theorem aU:Nk E aF:=nk
def L5 a (b:Int):=nU E f84 aF 5 [bJ a,vA (sc (int u32 b))]
theorem start a:aG E f84 aF [D.s (ints u32 a)]=letI A:=(a.length:Int);letI B:=A-(1:Int);aC (A==(0:Int)) (some [D.s (sc (int i64 0))]) (if 0<=i64.wrap B/\i64.wrap B<A then Fg.L5 (i64.wrap ((32:Int)*i64.wrap B)) (a.getD (i64.wrap B).toNat 0)else none):=eJ aU
theorem Dx a b:L5 a b=aC (decide (0<b)) (Fg.L5 (i64.wrap (a+1)) (u32.wrap (b.tdiv 2))) (some [D.s (sc (int i64 a))]):=lJ aU
theorem L:∀(m:Nat) (x w:Int),0<=w->w<2^m->m<=64->w<4294967296->0<=x->x<=4611686018427387904-m->L5 x w=some [D.s (.sc (.int .i64 (x+(bl w.toNat:Nat))))]:=by
 intro m
 induction m with
 |zero =>
  intro x w h0 h1 _ _ hx Ag;have:w=0:=by omega
  subst this;rw[Dx,aM];simp[bl]
 |succ m ih =>
  intro x w h0 h1 hm hw hx Ag;rw[Dx]
  by_cases hz:w=0
  ·subst hz;rw[aM];simp[bl]
  ·have hp:(2:Int)^(m+1)=2*2^m:=by rw[Int.pow_succ];omega
   rw[hp]at h1;rw[aO,cFZ h0,oN (by omega),wrap_i64,ih _ _ (by omega) (by omega) (by omega) (by omega) (by omega) (by omega),aTH (n:=w.toNat) (by omega),show(w/2).toNat=w.toNat/2 from by omega];congr 5;omega
def sp(a:List Int):Prop×List D:=(cO a/\a.length<=4398046511104,[.s (.sc (.int .i64 (bl (val a):Nat)))])
theorem spec:iH E f84 aF (pI .u32) sp:=by
 rintro a ⟨ha,h1⟩;refine(start a).trans ?_;show _=some [D.s (.sc (.int .i64 (bl (val a):Nat)))]
 by_cases hz:a.length=0
 ·rw[dU,(cY ha).1 hz];rfl
 ·have hd:=ha.iA.get (a.length-1);have hv:=bR (a:=a) (a.length-1);rw[show a.length-1+1=a.length from by omega,cC (bYN _)]at hv;have ht:a.getD (a.length-1) 0≠0:=by
   have:=getLast_take (a:=a) (n:=a.length-1) (by omega);rw[show a.length-1+1=a.length from by omega,cFF]at this;exact ha.top this
  have e:((a.length:Int)-1).toNat=a.length-1:=by omega
  rw[cP,wrap_i64 (n:=(a.length:Int)-1),aR,e,wrap_i64,
   L 32 _ _ hd.1 (by omega) (by omega) hd.2 (by omega) (by omega),hv,Ji,Bq (by rw[<-Ji];exact fY ha.iA _) (by omega)]
  congr 5;omega
def aJ:dO:=orc1 (pI .u32) sp
theorem ok:OK 84 aJ:=(eI E aF aD func84).oV rfl spec
end Fg
namespace uD
def E:Env:={ ({ base with n0:=1,io:=[0] })with nt:=119,own:=[],keep:=fun k=>(tlook [(22,[0,1,5,7,8,9,13]),(18,[0,1,5,7,9]),(6,[0,1,5,7,8,9,10])] k).getD [],cut:=tlook [(10,[0,1,5,7,8,9,10]),(27,[0,1,5,7,8,9,13])] }
def aF:=bd f278
theorem aU:Nk E aF:=nk
def L6(a:List Int)(b:Nat)(c:Nat) d f g h x7 i:=nU E f278 aF 6 [(A.any,some { e:=(156:Nat),cont:=oH.ints u32 a }),(A.v (V.one (L.view 0 b c)),none),mP d,bJ f,dR g,dR h,dR x7,bJ i]
def aCN(a:List Int)(b:Nat)(c:Nat) d f g h x7 i:=lP E f278 aF 10 [(A.any,some { e:=(156:Nat),cont:=oH.ints u32 a }),(A.v (V.one (L.view 0 b c)),none),mP d,bJ f,dR g,dR h,dR x7,bJ i]
def bCB(a:List Int)(b:Nat)(c:Nat) d f g h:=nU E f278 aF 18 [(A.any,some { e:=(156:Nat),cont:=oH.ints u32 a }),(A.v (V.one (L.view 0 b c)),none),mP d,bJ f,dR g,dR h]
def bHU(a:List Int)(b:Nat)(c:Nat) d f g h x7 i:=nU E f278 aF 22 [(A.any,some { e:=(156:Nat),cont:=oH.ints u32 a }),(A.v (V.one (L.view 0 b c)),none),mP d,bJ f,dR g,dR h,dR x7,bJ i]
def bNH(a:List Int)(b:Nat)(c:Nat) d f g h x7 i:=lP E f278 aF 27 [(A.any,some { e:=(156:Nat),cont:=oH.ints u32 a }),(A.v (V.one (L.view 0 b c)),none),mP d,bJ f,dR g,dR h,dR x7,bJ i]
theorem start al ao an b:aG E f278 aF [D.io kX u32 al ao an,D.s (ints u32 b)]=letI A:=(b.length:Int);letI F:=A-(1:Int);letI C:=b.getD (i64.wrap F).toNat 0;letI B:=u64.wrap (u64.wrap (u64.wrap (al.getD (ao+A.toNat) 0)*4294967296)+u64.wrap (al.getD (ao+(i64.wrap F).toNat) 0));letI G:=B.tdiv (u64.wrap C);if 0<=A/\A<(an:Int)then if 0<=i64.wrap F/\i64.wrap F<(an:Int)then if 0<=i64.wrap F/\i64.wrap F<A then if u64.wrap C=0 then none else uD.L6 al ao an b A (if 4294967295<u64.wrap G then(4294967295:Int)else u64.wrap G) 0 0 0 else none else none else none:=eJ aU
theorem qW a b c d e f g h i:L6 a b c d e f g h i=aC (decide (i<=e)) (aC (decide (i<e)) (if 0<=i/\i<(d.length:Int)then uD.aCN a b c d e f (u64.wrap (g+u64.wrap (f*u64.wrap (d.getD i.toNat 0)))) h i else none) (uD.aCN a b c d e f g h i)) (uD.bCB a b c d e f h):=lJ aU
theorem Pc a b c d e f g h i:aCN a b c d e f g h i=letI C:=b+i.toNat;letI B:=a.getD C 0;letI A:=gR BinOp.and u64 g 4294967295+h;if 0<=i/\i<(c:Int)then aC (decide (u64.wrap B<u64.wrap A)) (if 0<=i/\i<(c:Int)then uD.L6 (a.set C (u32.wrap (u64.wrap (u64.wrap (u64.wrap B+4294967296)-u64.wrap A)))) b c d e f (g/4294967296) 1 (i64.wrap (i+1))else none) (if 0<=i/\i<(c:Int)then uD.L6 (a.set C (u32.wrap (u64.wrap (u64.wrap B-u64.wrap A)))) b c d e f (g/4294967296) 0 (i64.wrap (i+1))else none)else none:=cJ aU
theorem aOQ a b c d e f g:bCB a b c d e f g=aC (decide (0<g)) (uD.bHU a b c d e (u64.wrap (f-1)) 0 g 0) (some [D.s (sc (int u32 (u32.wrap f))),D.io 156 u32 a 0 0]):=lJ aU
theorem aCL a b c d e f g h i:bHU a b c d e f g h i=letI A:=g+u64.wrap (a.getD (b+i.toNat) 0);aC (decide (i<=e)) (if 0<=i/\i<(c:Int)then aC (decide (i<e)) (if 0<=i/\i<(d.length:Int)then uD.bNH a b c d e f (u64.wrap (u64.wrap A+u64.wrap (d.getD i.toNat 0))) h i else none) (uD.bNH a b c d e f (u64.wrap A) h i)else none) (uD.bCB a b c d e f (u64.wrap (h-if g<h then g else h))):=lJ aU
theorem aOZ a b c d e f g h i:bNH a b c d e f g h i=if 0<=i/\i<(c:Int)then uD.bHU (a.set (b+i.toNat) (u32.wrap (gR BinOp.and u64 g 4294967295))) b c d e f (g/4294967296) h (i64.wrap (i+1))else none:=cJ aU
theorem digit{z:List Int}(hd:bM z)(k:Nat):(z.getD k 0).toNat=val z/4294967296^k%4294967296:=by
 rw[<-iP hd,gH];have:=hd.get k;omega
theorem yT{v j n:Nat}(h:v/4294967296^j<4294967296^n):v/4294967296^j%4294967296^n=v/4294967296^j:=cIT h
theorem minus{v j R X:Nat}(hR:R=v/4294967296^j)(hX:X<=R):(v-4294967296^j*X)/4294967296^j=R-X/\4294967296^j*X<=v:=by
 have h1:=cIV v (4294967296^j);have h2:v%4294967296^j<4294967296^j:=cAV _ (cD);rw[<-hR]at h1;obtain⟨D,rfl⟩:=bZS hX;rw[cDN]at h1;have h3:v-4294967296^j*X=v%4294967296^j+4294967296^j*D:=by omega
 rw[h3,cFB _ _ (cD),cEI h2];omega
theorem plus{v j n R X:Nat}(hR:R=v/4294967296^j)(hX:R<X)(aMJ:X<=4294967296^n):(v+4294967296^(j+n)-4294967296^j*X)/4294967296^j%4294967296^n=R+4294967296^n-X:=by
 have h1:=cIV v (4294967296^j);have h2:v%4294967296^j<4294967296^j:=cAV _ (cD);rw[<-hR]at h1;have h4:4294967296^j*(R+4294967296^n)=4294967296^j*R+4294967296^(j+n):=by rw[cDN,cDP]
 obtain⟨D,hD⟩:∃D,R+4294967296^n=X+D:=bZS (by omega);rw[hD,cDN]at h4;have h3:v+4294967296^(j+n)-4294967296^j*X=v%4294967296^j+4294967296^j*D:=by omega
 rw[h3,cFB _ _ (cD),cEI h2,bYP,cIT (by omega)];omega
def Fh(v o n X:Nat):Nat:=if v/4294967296^o%4294967296^n<X then 1 else 0
theorem bMH{a z':List Int}{o n X c N:Nat}(aYS:c<=1)(hd:bM a)(Bl:bM z')(hl:z'.length=N)(h1:z'.take o=a.take o)(h2:z'.drop (o+n)=a.drop (o+n))(h:val z'+4294967296^o*X=val a+4294967296^(o+n)*c) :
  c=Fh (val a) o n X/\z'=M8.oP N (val a+4294967296^(o+n)*Fh (val a) o n X-4294967296^o*X):=by
 obtain⟨k1,k2⟩:=M8.Ap hd Bl h1 h2;have e:=M8.Ao k1 k2 h;have jM:=M8.Dy (val z') o n;have hc:c=Fh (val a) o n X:=by
  unfold Fh;have:c=0\/c=1:=by omega
  rcases this with rfl |rfl
  ·rw[bI]
  ·rw[aR]
 subst hc;exact⟨rfl,M8.oX Bl hl (by omega)⟩
theorem aZU{v o n N X:Nat}(hv:v<4294967296^N)(bOZ:o+n<=N)(hX:X<4294967296^n):v+4294967296^(o+n)*Fh v o n X-4294967296^o*X<4294967296^N:=by
 have e1:=M8.qO v o n;have hW:=M8.Dy v o n;have hT:v/4294967296^(o+n)<4294967296^(N-(o+n)):=by
  apply cEF;rw[<-cDP,show o+n+(N-(o+n))=N from by omega];exact hv
 have hL:v%4294967296^o<4294967296^o:=cAV _ (cD);have s2:4294967296^(o+n)*(v/4294967296^(o+n)+1)<=4294967296^N:=by
  have:=cBB (4294967296^(o+n)) hT;rw[<-cDP,show o+n+(N-(o+n))=N from by omega]at this;exact this
 rw[cDN]at s2;unfold Fh;generalize v/4294967296^o%4294967296^n=W at *;generalize v%4294967296^o=L at *;generalize v/4294967296^(o+n)=T at *;split
 ·rename_i jM;have:4294967296^o*(W+1)<=4294967296^o*X:=cBB _ jM;rw[cDN]at this;omega
 ·omega
def Hk(v o n X:Nat):Nat:=(v/4294967296^o%4294967296^n+X)/4294967296^n
theorem bMI{a z':List Int}{o n X c N:Nat}(hd:bM a)(Bl:bM z')(hl:z'.length=N)(h1:z'.take o=a.take o)(h2:z'.drop (o+n)=a.drop (o+n))(h:val z'+4294967296^(o+n)*c=val a+4294967296^o*X) :
  c=Hk (val a) o n X/\z'=M8.oP N (val a+4294967296^o*X-4294967296^(o+n)*Hk (val a) o n X):=by
 obtain⟨k1,k2⟩:=M8.Ap hd Bl h1 h2;have e:=M8.Ao k1.symm k2.symm h.symm;have jM:=M8.Dy (val z') o n;have hc:c=Hk (val a) o n X:=by
  unfold Hk;rw[e];rw[cFB _ _ (cD),cEI jM,bYP]
 subst hc;exact⟨rfl,M8.oX Bl hl (by omega)⟩
def sp(x:List Int×Nat×Nat)(b:List Int):Prop×List D:=(bM x.1/\x.2.2=b.length+1/\x.2.1+x.2.2<=x.1.length/\bM b/\0<b.length/\x.1.length<=549755813888/\2147483648<=b.getD (b.length-1) 0/\val x.1/4294967296^x.2.1<4294967296*val b,
 [.s (.sc (.int .u32 ((val x.1/4294967296^x.2.1/val b:Nat):Int))),.io kX .u32 (M8.oP x.1.length (val x.1-4294967296^x.2.1*(val b*(val x.1/4294967296^x.2.1/val b)))) 0 0])
theorem bYF{a b:List Int}{o:Nat}{w:Int}(hN:a.length<=549755813888)(ha:bM a)(hb:bM b)(ho:o+(b.length+1)<=a.length)(aAV:0<=w)(bGT:w<4294967296):∀(r i:Nat) (z:List Int) (C s:Int),i+r=b.length->z.length=a.length->bM z->0<=C->C<4294967296->0<=s->s<=1->z.take o=a.take o->z.drop (o+(b.length+1))=a.drop (o+(b.length+1)) ->
  val z+4294967296^o*(val (b.take i)*w.toNat)=val a+4294967296^(o+i)*(C.toNat+s.toNat) ->
  L6 z o (b.length+1) b b.length w C s i=bCB (M8.oP a.length (val a+4294967296^(o+(b.length+1))*Fh (val a) o (b.length+1) (val b*w.toNat)-4294967296^o*(val b*w.toNat))) o (b.length+1) b b.length w (Fh (val a) o (b.length+1) (val b*w.toNat):Nat):=by
 have J:∀(i:Nat) (z:List Int) (p s:Int),i<=b.length->z.length=a.length->bM z->0<=p->p<18446744073709551616->0<=s->s<=1 ->
   ∃(d s':Int),aCN z o (b.length+1) b b.length w p s i=L6 (z.set (o+i) d) o (b.length+1) b b.length w (p/4294967296) s' ((i+1:Nat):Int)/\0<=d/\d<4294967296/\0<=s'/\s'<=1/\d+p%4294967296+s=z.getD (o+i) 0+4294967296*s':=by
  intro i z p s hi hz hd h0 h1 h2 h3;have g:=hd.get (o+i);have w2:i64.wrap ((i:Int)+1)=((i+1:Nat):Int):=by rw[wrap_i64];omega
  rw[Pc,aR,cCJ,wrap_u64 (n:=z.getD (o+i) 0),kR h0 h1,wrap_u64 (n:=p%4294967296+s),w2]
  by_cases hc:z.getD (o+i) 0<p%4294967296+s
  ·rw[aO hc,aR,wrap_u64 (n:=z.getD (o+i) 0+4294967296),wrap_u64 (n:=z.getD (o+i) 0+4294967296-(p%4294967296+s)),oN (by omega)];exact⟨_,1,rfl,by omega,by omega,by omega,by omega,by omega⟩
  ·rw[aM hc,aR,wrap_u64 (n:=z.getD (o+i) 0-(p%4294967296+s)),oN (by omega)];exact⟨_,0,rfl,by omega,by omega,by omega,by omega,by omega⟩
 intro r
 induction r with
 |zero =>
  intro i z C s hi hz hd h0 h1 h2 h3 ht Qb hv;have aLV:i=b.length:=by omega
  subst aLV;rw[cFF]at hv;obtain⟨d,s',e,d0,d1,s0,s1,hs⟩:=J b.length z C s (bYN _) hz hd h0 (by omega) h2 h3;rw[qW,aO,aM,e,qW,aM];have aXW:=M8.lW (a:=z) (j:=o+b.length) (by omega) d;have gx:=(hd.get (o+b.length)).1;have hf:=bMH (a:=a) (z':=z.set (o+b.length) d) (o:=o) (n:=b.length+1) (X:=val b*w.toNat) (c:=s'.toNat) (N:=a.length) (by omega) ha (kM hd ⟨d0,d1⟩) (by simp[hz]) (by rw[cJB (by omega)];exact ht) (by rw[cJH (by omega)];exact Qb) (by
   rw[<-cCD o,cDL,cDQ];generalize z.getD (o+b.length) 0=x at *;generalize val (z.set (o+b.length) _)=W at *;generalize 4294967296^(o+b.length)=P at *;have hc:C%4294967296=C:=by omega
   have e1:d.toNat+(C.toNat+s.toNat)=x.toNat+4294967296*s'.toNat:=by omega
   have e2:P*d.toNat+P*(C.toNat+s.toNat)=P*x.toNat+P*(4294967296*s'.toNat):=by
    rw[<-cDN,e1,cDN]
   omega)
  rw[<-hf.2,<-hf.1,cKI s0]
 |succ r ih =>
  intro i z C s hi hz hd h0 h1 h2 h3 ht Qb hv;have g2:=hb.get i;obtain⟨X,hX⟩:=cDO g2.1;obtain⟨Y,hY⟩:=cDO aAV;have bHM:Y*X<=18446744065119617025:=by
   have h2:X<=4294967295:=by omega
   have h3:Y<=4294967295:=by omega
   have:=cIS h3 h2;omega
  have hq:w*b.getD i 0=((Y*X:Nat):Int):=by rw[hX,hY];simp
  have wb:u64.wrap (C+u64.wrap (w*u64.wrap (b.getD i 0)))=C+((Y*X:Nat):Int):=by
   rw[wrap_u64 (n:=b.getD i 0),hq,wrap_u64 (n:=((Y*X:Nat):Int)),wrap_u64]
  rw[qW,aO,aO,aR,cCJ,wb];obtain⟨d,s',e,d0,d1,s0,s1,hs⟩:=J i z (C+((Y*X:Nat):Int)) s (by omega) hz hd (by omega) (by omega) h2 h3;rw[e];refine ih (i+1) _ _ s' (by omega) (by simp[hz]) (kM hd ⟨d0,d1⟩) (by omega) (by omega) s0 s1 (by rw[cJB (by omega)];exact ht) (by rw[cJH (by omega)];exact Qb) ?_;have aXW:=M8.lW (a:=z) (j:=o+i) (by omega) d;have e0:4294967296^o*(val (b.take (i+1))*w.toNat)=4294967296^o*(val (b.take i)*w.toNat)+4294967296^(o+i)*(Y*X):=by
   rw[bR,hX,hY,cCJ,cCJ,bZH,cDN,cDP,cDQ,cDQ,cDM X Y]
  have gx:=(hd.get (o+i)).1;rw[e0,show o+(i+1)=(o+i)+1 from by omega,cDL,cDQ];generalize Y*X=q at *;generalize z.getD (o+i) 0=x at *;generalize 4294967296^(o+i)=P at *;generalize val (z.set (o+i) d)=W at *;generalize 4294967296^o*(val (b.take i)*w.toNat)=U at *;have e2:P*d.toNat+P*q+P*(C.toNat+s.toNat)=P*x.toNat+P*(4294967296*(((C+(q:Int))/4294967296).toNat+s'.toNat)):=by
   rw[<-cDN,<-cDN,<-cDN];congr 1;omega
  omega
theorem bNB{a b:List Int}{o:Nat}{w x7:Int}(hN:a.length<=549755813888)(ha:bM a)(hb:bM b)(ho:o+(b.length+1)<=a.length):∀(r i:Nat) (z:List Int) (c:Int),i+r=b.length->z.length=a.length->bM z->0<=c->c<=1->z.take o=a.take o->z.drop (o+(b.length+1))=a.drop (o+(b.length+1)) ->
  val z+4294967296^(o+i)*c.toNat=val a+4294967296^o*val (b.take i) ->
  bHU z o (b.length+1) b b.length w c x7 i=bCB (M8.oP a.length (val a+4294967296^o*val b-4294967296^(o+(b.length+1))*Hk (val a) o (b.length+1) (val b))) o (b.length+1) b b.length w (u64.wrap (x7-if(Hk (val a) o (b.length+1) (val b):Int)<x7 then(Hk (val a) o (b.length+1) (val b):Int)else x7)):=by
 intro r
 induction r with
 |zero =>
  intro i z c hi hz hd h0 h1 ht Qb hv;have aLV:i=b.length:=by omega
  subst aLV;rw[cFF]at hv;have g:=hd.get (o+b.length);have w2:i64.wrap ((b.length:Int)+1)=((b.length+1:Nat):Int):=by rw[wrap_i64];omega
  rw[aCL,aO,aR,aM,cCJ,wrap_u64 (n:=z.getD (o+b.length) 0),wrap_u64 (n:=c+z.getD (o+b.length) 0),aOZ,aR,cCJ,kR (by omega) (by omega),oN (by omega),w2,aCL,aM];have hs:=M8.lW (a:=z) (j:=o+b.length) (by omega) ((c+z.getD (o+b.length) 0)%4294967296);have hf:=bMI (a:=a) (z':=z.set (o+b.length) ((c+z.getD (o+b.length) 0)%4294967296)) (o:=o) (n:=b.length+1) (X:=val b) (c:=((c+z.getD (o+b.length) 0)/4294967296).toNat) (N:=a.length) ha (kM hd (by omega)) (by simp[hz]) (by rw[cJB (by omega)];exact ht) (by rw[cJH (by omega)];exact Qb) (by
   rw[<-cCD o,cDL,cDQ];generalize z.getD (o+b.length) 0=x at *;generalize val (z.set (o+b.length) _)=W at *;generalize 4294967296^(o+b.length)=P at *;have e:((c+x)%4294967296).toNat+4294967296*((c+x)/4294967296).toNat=x.toNat+c.toNat:=by omega
   have e2:P*((c+x)%4294967296).toNat+P*(4294967296*((c+x)/4294967296).toNat)=P*x.toNat+P*c.toNat:=by
    rw[<-cDN,e,cDN]
   omega)
  rw[<-hf.2,<-hf.1,cKI (by omega)]
 |succ r ih =>
  intro i z c hi hz hd h0 h1 ht Qb hv;have g:=hd.get (o+i);have g2:=hb.get i;have w2:i64.wrap ((i:Int)+1)=((i+1:Nat):Int):=by rw[wrap_i64];omega
  rw[aCL,aO,aR,aO,aR,cCJ,wrap_u64 (n:=z.getD (o+i) 0),wrap_u64 (n:=c+z.getD (o+i) 0),wrap_u64 (n:=b.getD i 0),wrap_u64,aOZ,aR,cCJ,kR (by omega) (by omega),oN (by omega),w2];refine ih (i+1) _ _ (by omega) (by simp[hz]) (kM hd (by omega)) (by omega) (by omega) (by rw[cJB (by omega)];exact ht) (by rw[cJH (by omega)];exact Qb) ?_;have hs:=M8.lW (a:=z) (j:=o+i) (by omega) ((c+z.getD (o+i) 0+b.getD i 0)%4294967296);rw[bR,cDN,<-cDQ,<-cDP,show o+(i+1)=(o+i)+1 from by omega,cDL,cDQ];generalize z.getD (o+i) 0=x at *;generalize b.getD i 0=y at *;generalize val (z.set (o+i) _)=W at *;generalize 4294967296^(o+i)=P at *;generalize 4294967296^o*val (b.take i)=U at *;have e:((c+x+y)%4294967296).toNat+4294967296*((c+x+y)/4294967296).toNat=x.toNat+y.toNat+c.toNat:=by omega
  have e2:P*((c+x+y)%4294967296).toNat+P*(4294967296*((c+x+y)/4294967296).toNat)=P*x.toNat+P*y.toNat+P*c.toNat:=by
   rw[<-cDN,e,cDN,cDN]
  omega
theorem bND{u b:List Int}{L j R q:Nat}(hL:L<=549755813888)(hu:u.length=L)(hd:bM u)(hb:bM b)(hj:j+(b.length+1)<=L)(hR:R=val u/4294967296^j)(aBF:R<4294967296^(b.length+1))(hV:0<val b)(hq:q=R/val b):∀(k w:Nat),w=q+k->w<4294967296 ->
  bCB (M8.oP L (val u+4294967296^(j+(b.length+1))*(if k=0 then 0 else 1)-4294967296^j*(val b*w))) j (b.length+1) b b.length w (if k=0 then 0 else 1)=some [.s (.sc (.int .u32 (q:Int))),.io kX .u32 (M8.oP L (val u-4294967296^j*(val b*q))) 0 0]:=by
 have aPV:=cR hb;have aVB:val b*q<=R:=by rw[hq];exact cJE _ _
 have aGW:R<val b*(q+1):=by rw[hq];exact cJN _ hV
 have aPP:=cR hd;rw[hu]at aPP;intro k
 induction k with
 |zero =>
  intro w hw bBD;subst hw;rw[if_pos rfl,if_pos rfl,aOQ,aM (by decide),bZO,cFH,bZO,oN (by omega)]
 |succ k ih =>
  intro w hw bBD;subst hw;rw[bI,bI,bYX];have aLR:R<val b*(q+(k+1)):=bZN aGW (cBB _ (by omega));have Xk:val b*(q+(k+1))=val b*(q+k)+val b:=by rw[<-cCD q,Nat.mul_succ]
  have aMJ:val b*(q+(k+1))<=4294967296^(b.length+1):=by
   rw[cDL];exact cIS (by omega) (by omega)
  have aAY:=plus (n:=b.length+1) hR (X:=val b*(q+(k+1))) aLR aMJ;have aYU:val u+4294967296^(j+(b.length+1))-4294967296^j*(val b*(q+(k+1)))<4294967296^L:=by
   have:=aZU aPP hj (X:=val b*(q+(k+1))) (by rw[cDL];exact cGW aPV (by omega));unfold Fh at this;rw[yT (by rw[<-hR];exact aBF),<-hR,if_pos aLR,bYX]at this;exact this
  have w1:u64.wrap (((q+(k+1):Nat):Int)-1)=((q+k:Nat):Int):=by rw[wrap_u64];omega
  have hl:=M8.iG aYU;have e3:4294967296^j*(val b*(q+(k+1)))<=4294967296^(j+(b.length+1)):=by
   rw[cDP];exact cBB _ aMJ
  have e1:4294967296^j*(val b*(q+(k+1)))=4294967296^j*(val b*(q+k))+4294967296^j*val b:=by rw[Xk,cDN]
  rw[aOQ,aO (by decide),w1];have dA:bM (M8.oP L (val u+4294967296^(j+(b.length+1))-4294967296^j*(val b*(q+(k+1))))):=M8.mA;have vA:val (M8.oP L (val u+4294967296^(j+(b.length+1))-4294967296^j*(val b*(q+(k+1)))))=val u+4294967296^(j+(b.length+1))-4294967296^j*(val b*(q+(k+1))):=M8.lB;generalize M8.oP L (val u+4294967296^(j+(b.length+1))-4294967296^j*(val b*(q+(k+1))))=A at *;have step:=bNB (a:=A) (b:=b) (o:=j) (w:=((q+k:Nat):Int)) (x7:=1) (by omega) dA hb (by omega) b.length 0 A 0 (by omega) rfl dA (by omega) (by omega) rfl rfl (by rw[List.take_zero];show val A+_*0=val A+_*0;rw[cFH,cFH]);rw[hl,vA,show((0:Nat):Int)=0 from rfl]at step;rw[step]
  by_cases hk:k=0
  ·subst hk;have aBC:Hk (val u+4294967296^(j+(b.length+1))-4294967296^j*(val b*(q+(0+1)))) j (b.length+1) (val b)=1:=by
    unfold Hk;rw[aAY];have e:R+4294967296^(b.length+1)-val b*(q+(0+1))+val b=4294967296^(b.length+1)*1+(R-val b*q):=by
     rw[cDN]at aMJ ⊢;omega
    have jM:R-val b*q<4294967296^(b.length+1):=by omega
    rw[e,Nat.mul_add_div (cD),cEI jM]
   rw[aBC,bYX];have i0:=ih (q+0) rfl (by omega);rw[if_pos rfl,if_pos rfl,cFH,bZO]at i0;have wz:u64.wrap (1-if((1:Nat):Int)<1 then((1:Nat):Int)else 1)=0:=by
    rw[if_neg (by decide),wrap_u64];rfl
   rw[wz];have e4:val u+4294967296^(j+(b.length+1))-4294967296^j*(val b*(q+(0+1)))+4294967296^j*val b-4294967296^(j+(b.length+1))=val u-4294967296^j*(val b*(q+0)):=by
    have e2:=(minus hR aVB).2;have e5:q+0=q:=rfl;rw[e5]at e1 ⊢;omega
   rw[e4];exact i0
  ·have aBC:Hk (val u+4294967296^(j+(b.length+1))-4294967296^j*(val b*(q+(k+1)))) j (b.length+1) (val b)=0:=by
    unfold Hk;rw[aAY];refine cEI ?_;have:R<val b*(q+k):=bZN aGW (cBB _ (by omega));omega
   rw[aBC,cFH];have i0:=ih (q+k) rfl (by omega);rw[if_neg hk,if_neg hk,bYX]at i0;have wz:u64.wrap (1-if((0:Nat):Int)<1 then((0:Nat):Int)else 1)=1:=by
    rw[if_pos (by decide),wrap_u64];rfl
   rw[wz];have e4:val u+4294967296^(j+(b.length+1))-4294967296^j*(val b*(q+(k+1)))+4294967296^j*val b-0=val u+4294967296^(j+(b.length+1))-4294967296^j*(val b*(q+k)):=by omega
   rw[e4];exact i0
theorem spec(x:List Int×Nat×Nat)(b:List Int)(h:(sp x b).1):aG E f278 aF [(Ek kX .u32).put x,(pI .u32).put b]=some (sp x b).2/\∃rs oR,(sp x b).2=rs ++ [.io kX .u32 oR 0 0]/\oR.length=x.1.length:=by
 obtain⟨xl,o,n⟩:=x;obtain⟨hd,hn,ho,hb,hb0,hN,aYT,hR⟩:=h;simp only at hd hn ho hN hR;subst hn;obtain⟨R,aYZ⟩:∃R,R=val xl/4294967296^o:=⟨_,rfl⟩;have aPV:=cR hb;have hV:0<val b:=by
  have:=bR (a:=b) (b.length-1);rw[show b.length-1+1=b.length by omega,cFF]at this;have hp:0<4294967296^(b.length-1):=cD;have:4294967296^(b.length-1)*1<=4294967296^(b.length-1)*(b.getD (b.length-1) 0).toNat:=cBB _ (by omega);omega
 rw[<-aYZ]at hR;have aBF:R<4294967296^(b.length+1):=by rw[cDL];omega
 have bTG:=cR hd;refine⟨(start xl o (b.length+1) b).trans ?_,[_],_,rfl,M8.iG (cFA (cEV _ _) bTG)⟩;have g1:=hd.get (o+b.length);have g2:=hd.get (o+(b.length-1));have g3:=hb.get (b.length-1);have Uc:(xl.getD (o+b.length) 0).toNat=R/4294967296^b.length:=by
  rw[digit hd,cDP,<-cEB,<-aYZ,cIT];apply cEF;rw[cDL]at aBF;exact aBF
 have Vv:(xl.getD (o+(b.length-1)) 0).toNat=R/4294967296^(b.length-1)%4294967296:=by
  rw[digit hd,cDP,<-cEB,<-aYZ]
 have aMC:(b.getD (b.length-1) 0).toNat=val b/4294967296^(b.length-1):=by
  rw[digit hb,cIT];apply cEF;rw[<-cDL,show(b.length-1).succ=b.length from by omega];exact aPV
 have w1:i64.wrap ((b.length:Int)-1)=((b.length-1:Nat):Int):=by rw[wrap_i64];omega
 obtain⟨t,ht⟩:∃t:Nat,t=((xl.getD (o+b.length) 0).toNat*4294967296+(xl.getD (o+(b.length-1)) 0).toNat)/(b.getD (b.length-1) 0).toNat:=⟨_,rfl⟩;obtain⟨w,hw⟩:∃w:Nat,w=if 4294967295<t then 4294967295 else t:=⟨_,rfl⟩
 have bBD:w<4294967296:=by rw[hw];split <;> omega
 have Ai:R/val b<=w:=by
  have hq:R/val b<4294967296:=by
   apply cEF;rw[cDM];exact hR
  have bGX:R/val b<=t:=by
   obtain⟨k,hk⟩:∃k,b.length=k+1:=⟨b.length-1,by omega⟩;rw[hk,cBL]at Vv aMC;rw[hk]at Uc;have e1:(xl.getD (o+b.length) 0).toNat*4294967296+(xl.getD (o+(b.length-1)) 0).toNat=R/4294967296^k:=by
    rw[hk,cBL,Uc,Vv,cDL,<-cEB];omega
   rw[ht,e1,hk,cBL,cEB];apply Nat.div_le_div_left
   ·rw[aMC];exact cJE _ _
   ·refine Nat.mul_pos (cD) ?_;have:=aYT;rw[hk,cBL]at this;omega
  rw[hw];split <;> omega
 obtain⟨x1,aUW⟩:=cDO g1.1;obtain⟨x2,aEM⟩:=cDO g2.1;obtain⟨x3,bJI⟩:=cDO g3.1;have ew:(if 4294967295<u64.wrap ((u64.wrap (u64.wrap (u64.wrap (xl.getD (o+b.length) 0)*4294967296)+u64.wrap (xl.getD (o+(b.length-1)) 0))).tdiv (u64.wrap (b.getD (b.length-1) 0)))then(4294967295:Int)else u64.wrap ((u64.wrap (u64.wrap (u64.wrap (xl.getD (o+b.length) 0)*4294967296)+u64.wrap (xl.getD (o+(b.length-1)) 0))).tdiv (u64.wrap (b.getD (b.length-1) 0))))=(w:Int):=by
  have et:u64.wrap ((u64.wrap (u64.wrap (u64.wrap (xl.getD (o+b.length) 0)*4294967296)+u64.wrap (xl.getD (o+(b.length-1)) 0))).tdiv (u64.wrap (b.getD (b.length-1) 0)))=(t:Int):=by
   rw[wrap_u64 (n:=xl.getD (o+b.length) 0),wrap_u64 (n:=xl.getD (o+b.length) 0*4294967296),wrap_u64 (n:=xl.getD (o+(b.length-1)) 0),wrap_u64 (n:=b.getD (b.length-1) 0),wrap_u64 (n:=xl.getD (o+b.length) 0*4294967296+xl.getD (o+(b.length-1)) 0),cFZ (by omega)];rw[ht,aUW,aEM,bJI,cCJ,cCJ,cCJ];have e:(x1:Int)*4294967296+(x2:Int)=((x1*4294967296+x2:Nat):Int):=by omega
   rw[e,<-cEA];have hle:(x1*4294967296+x2)/x3<=x1*4294967296+x2:=cGV _ _;have hQ:(x1*4294967296+x2)/x3<18446744073709551616:=by omega
   clear hle ht hw bBD Ai;generalize (x1*4294967296+x2)/x3=Q at hQ ⊢;have bWI:(Q:Int)<18446744073709551616:=by omega
   exact aGD ⟨cIA _,bWI⟩
  rw[et,hw];clear ht hw Ai et;split <;> split <;> omega
 rw[aR,w1,aR,aR,cCJ,cCJ,if_neg (by rw[wrap_u64];omega),ew];have l6:=bYF (a:=xl) (b:=b) (o:=o) (w:=(w:Int)) hN hd hb ho (by omega) (by omega) b.length 0 xl 0 0 (by omega) rfl hd (by omega) (by omega) (by omega) (by omega) rfl rfl (by simp[val]);rw[cCJ]at l6;refine Eq.trans l6 ?_;obtain⟨k,hk⟩:=bZS Ai;have bSV:=bND (u:=xl) (b:=b) (L:=xl.length) (j:=o) (R:=R) (q:=R/val b) hN rfl hd hb ho aYZ aBF hV rfl k w hk bBD;have ho:Fh (val xl) o (b.length+1) (val b*w)=if k=0 then 0 else 1:=by
  unfold Fh;rw[yT (by rw[<-aYZ];exact aBF),<-aYZ];have e:=cJE R (val b);have e2:=cJN R hV
  by_cases h0:k=0
  ·rw[if_pos h0,if_neg];rw[hk,h0,bZO];omega
  ·rw[if_neg h0,if_pos];refine bZN e2 (cBB _ (by omega))
 rw[ho];unfold sp;dsimp only;rw[<-aYZ];have ec:((if k=0 then 0 else 1:Nat):Int)=if k=0 then 0 else 1:=by split <;> rfl
 rw[ec];exact bSV
def aJ:dO:=orc2 (Ek kX .u32) (pI .u32) sp
theorem fnok:nS prog E 278 f278 aF:=wK qP mixed (lT _ rfl aD (oD)) func278 rfl rfl rfl rfl rfl
theorem ok:sG prog base.glob 278 aJ:=fnok.jZ rfl spec
end uD
namespace DivMod
def E:Env:={ ({ base with C:=rW [(278,uD.aJ)] (callsOf [(142,wP.aJ),(237,aPG.aJ),(134,Norm.aJ),(228,pJ.aJ),(84,Fg.aJ),(181,aQA.aJ),(202,bAC.aJ)]),ioF:=Mw [(278,uD.aJ)] })with nt:=98,own:=[17,18,23,25,34,40,53,91,97],keep:=fun k=>(tlook [(16,[8,9,10,11,12,13]),(11,[0,8,9,10])] k).getD [],cut:=tlook [] }
def aF:=bd f277
theorem aU:Nk E aF:=nk
def bCD a b c (d:Nat) (f:List Int):=nU E f277 aF 11 [mP a,bJ b,mP c,(A.v (V.one (L.buf 3 d)),some { e:=(156:Nat),cont:=oH.ints u32 f })]
def bHV a b (c:Nat) (d:List Int) f (g:Nat) (h:List Int) x7:=nU E f277 aF 16 [bJ a,mP b,(A.v (V.one (L.buf 2 c)),some { e:=(156:Nat),cont:=oH.ints u32 d }),bJ f,(A.v (V.one (L.buf 4 g)),some { e:=(156:Nat),cont:=oH.ints u32 h }),bJ x7]
theorem start a b:aG E f277 aF [D.s (ints u32 a),D.s (ints u32 b)]=letI A:=(b.length:Int);letI F:=A-(1:Int);letI B:=cEH (i64.wrap F).toNat (cEG A.toNat b);aC (A==(0:Int)) (aN ((0:Int)<=(0:Int)/\(0:Int)<(18446744073709551616:Int)) (aN ((0:Int)<=(0:Int)/\(0:Int)<(18446744073709551616:Int)) (some [D.own 156 u32 (dg 0),D.own 156 u32 (dg 0)]))) (aN (cO a/\cO b/\a.length<=4398046511104/\b.length<=4398046511104) (aC (decide (iW (val a) (val b)<0)) (aN ((0:Int)<=(0:Int)/\(0:Int)<(18446744073709551616:Int)) (aN (bM a/\a.length<=4398046511104) (some [D.own 156 u32 (dg 0),D.own 156 u32 (dg (val a))]))) (aC (A==(1:Int)) (if(0:Int)<=(0:Int)/\0<A then aN (bM a/\a.length<=1099511627776/\0<b.getD 0 0/\b.getD 0 0<(4294967296:Int)) (aB (dg (val a/(b.getD 0 0).toNat)) fun c=>aB (↑(val a%(b.getD 0 0).toNat):Int) fun d=>aN (0<=u64.wrap d/\u64.wrap d<18446744073709551616) (some [D.own 156 u32 c,D.own 156 u32 (dg (u64.wrap d).toNat)]))else none) (if 0<=i64.wrap F/\i64.wrap F<=A/\A<=A then aN (cO B/\B.length<=4398046511104) (aB (↑(bl (val B)):Int) fun e=>letI C:=i64.wrap ((32:Int)-e);aN (cO b/\b.length<=1099511627776/\i64.wrap ((32:Int)-e)<=1099511627776) (aB (dg (val b*(2:Nat)^C.toNat)) fun f=>aN (cO a/\a.length<=1099511627776/\i64.wrap ((32:Int)-e)<=1099511627776) (aB (dg (val a*(2:Nat)^C.toNat)) fun g=>DivMod.bCD a C f g.length g)))else none)))):=eJ aU
theorem aOU a b c d e:bCD a b c d e=letI A:=(c.length:Int);letI B:=i64.wrap ((d:Int)-A);aC (decide ((d:Int)<=(a.length:Int))) (if(0:Nat)<(1:Nat)/\(↑(e.length+1):Int)<=(8796093022208:Int)then DivMod.bCD a b c (e.length+1) (e ++ [(0:Int)])else none) (if 0<=i64.wrap ((d:Int)-A)/\i64.wrap ((d:Int)-A)<=i64.wrap ((d:Int)-A)/\i64.wrap ((d:Int)-A)<=8796093022208 then DivMod.bHV b c d e A B.toNat (cAQ B.toNat (0:Int)) (i64.wrap (i64.wrap ((d:Int)-A)-1))else none):=lJ aU
theorem aOS a b c d e f g h:bHV a b c d e f g h=letI C:=val d/(4294967296:Nat)^h.toNat/val b;letI B:=i64.wrap (h+e)+1;letI A:=cEG (e.toNat-0) (cEH 0 d);aC (decide (0<=h)) (if 0<=h/\h<=i64.wrap B/\i64.wrap B<=(c:Int)then aN (bM d/\(i64.wrap B).toNat-h.toNat=b.length+1/\h.toNat+((i64.wrap B).toNat-h.toNat)<=d.length/\bM b/\0<b.length/\d.length<=549755813888/\2147483648<=b.getD (b.length-1) 0/\val d/(4294967296:Nat)^h.toNat<4294967296*val b) (aB (C:Int) fun i=>aB (M8.oP d.length (val d-(4294967296:Nat)^h.toNat*(val b*C))) fun j=>if 0<=h/\h<(f:Int)then DivMod.bHV a b c j e f (g.set h.toNat i) (i64.wrap (h-1))else none)else none) (aN (bM g/\g.length<=4398046511104) (if(0:Int)<=(0:Int)/\0<=e/\e<=(c:Int)then aN (bM A/\A.length<=4398046511104) (aB (dg (val A)) fun k=>aN (bM k/\k.length<=1099511627776/\a<9223372036854775808) (aB (dg (val k/(2:Nat)^a.toNat)) fun l=>some [D.own 156 u32 (dg (val g)),D.own 156 u32 l]))else none)):=lJ aU
def sp(a b:List Int):Prop×List D:=(cO a/\cO b/\a.length<=274877906944/\1<=b.length/\b.length<=274877906944,[.own kX .u32 (dg (val a/val b)),.own kX .u32 (dg (val a%val b))])
theorem bNF{v:List Int}{L U0 s:Nat}(hL:L<=549755813888)(hv:bM v)(hn:0<v.length)(aXR:2147483648<=v.getD (v.length-1) 0)(hvL:v.length<=L)(hs:s<=32):∀(t:Nat) (u qs:List Int),t<=L-v.length->u.length=L->bM u->qs.length=L-v.length->bM qs->val u/4294967296^t<val v->U0=val u+val v*(4294967296^t*val (qs.drop t)) ->
  bHV s v L u v.length (L-v.length) qs ((t:Int)-1)=some [.own kX .u32 (dg (U0/val v)),.own kX .u32 (dg (U0%val v/2^s))]:=by
 have aPV:=cR hv;intro t
 induction t with
 |zero =>
  intro u qs _ hu hd hq aYP jM hU;rw[cIJ,cKC]at jM;rw[cIJ,Nat.one_mul,cER]at hU;have e1:U0/val v=val qs:=by rw[hU,cFB _ _ (by omega),cEI jM,bYP]
  have e2:U0%val v=val u:=by rw[hU,cKE,cIT jM]
  have e3:val (u.take v.length)=val u:=by rw[M8.mN hd,cIT (by omega)]
  have l3:(u.take v.length).length<=549755813888:=by rw[cBD];omega
  have l4:=kB (Nat.le_of_lt jM);have l5:=lZ hv;rw[aOS,aM,gP ⟨aYP,by omega⟩,aR];simp only[cCJ,Nat.sub_zero,cER,aE];rw[gP ⟨hd.take _,by omega⟩,e3,gP ⟨cA _,by omega,by omega⟩,bD,e1,e2]
 |succ j ih =>
  intro u qs hj hu hd hq aYP jM hU;have w1:i64.wrap (i64.wrap (((j+1:Nat):Int)-1+(v.length:Int))+1)=((j+(v.length+1):Nat):Int):=by
   rw[wrap_i64 (n:=((j+1:Nat):Int)-1+(v.length:Int)),wrap_i64];omega
  have w2:i64.wrap (((j+1:Nat):Int)-1-1)=(j:Int)-1:=by rw[wrap_i64];omega
  have ej:(((j+1:Nat):Int)-1).toNat=j:=by omega
  have en:j+(v.length+1)-j=v.length+1:=by omega
  obtain⟨R,hR⟩:∃R,R=val u/4294967296^j:=⟨_,rfl⟩;have hV:0<val v:=cFA (cEN _) jM;have aZA:R<4294967296*val v:=by
   rw[cDL,<-cEB,<-hR]at jM;rw[cDM];exact(Nat.div_lt_iff_lt_mul (by omega)).1 jM
  obtain⟨q,aRX⟩:∃q,q=R/val v:=⟨_,rfl⟩;have aVB:val v*q<=R:=by rw[aRX];exact cJE _ _
  have bTZ:q<4294967296:=by
   rw[aRX];apply cEF;rw[cDM];exact aZA
  have aPP:=cR hd;rw[hu]at aPP;rw[aOS,aO];simp only[w1,w2,ej,en,cCJ,aE];rw[aR,gP ⟨hd,by trivial,by omega,hv,hn,by omega,aXR,by rw[<-hR];exact aZA⟩,aR,<-hR,<-aRX,hu];obtain⟨m1,m2⟩:=uD.minus hR aVB;refine ih _ _ (by omega) (M8.iG (by omega)) M8.mA (by simp[hq]) (kM aYP ⟨by omega,by omega⟩) ?_ ?_
  ·rw[M8.lB,m1];have h1:=cIV R (val v);have h2:=cAV R hV;rw[<-aRX]at h1;omega
  ·rw[M8.lB,nW (by omega),cCJ,hU,cDL];have e1:val v*(4294967296^j*(q+4294967296*val (qs.drop (j+1))))=4294967296^j*(val v*q)+val v*(4294967296^j*4294967296*val (qs.drop (j+1))):=by
    rw[cDN,cDN,cGH,cDQ (4294967296^j)]
   rw[e1];omega
theorem bGF{a v:List Int}{s:Int}{r:Option (List D)}(aPS:a.length<=274877906944)(K:∀u:List Int,bM u->u.length=a.length+1->bCD a s v (a.length+1) u=r\/True):∀(d:Nat) (u:List Int),bM u->u.length+d=a.length+1->bCD a s v u.length u=bCD a s v (a.length+1) (u ++ cAQ d 0)
 |0,u,hu,hl=>by
  rw[show u.length=a.length+1 by omega];simp
 |d+1,u,hu,hl=>by
  rw[aOU,aO,aR];have:=bGF aPS K d (u ++ [0]) (lS.2 ⟨hu,kF.2 ⟨by omega,lC⟩⟩) (by simp;omega);rw[bZQ,cMS]at this;rw[this,cAI];rfl
theorem spec:fF E f277 aF (pI .u32) (pI .u32) sp:=by
 rintro a b ⟨ha,hb,hl,h1,aMH⟩;refine(start a b).trans ?_;have g:=hb.iA.get 0;have hz:val b≠0:=fun h=>by have:=(cY hb).2 h;omega
 show _=some [D.own kX .u32 (dg (val a/val b)),D.own kX .u32 (dg (val a%val b))];rw[cP,gP ⟨ha,hb,by omega,by omega⟩]
 by_cases hc:val a<val b
 ·have:iW (val a) (val b)<0:=by unfold iW;rw[if_pos hc];omega
  rw[aO this,gP,gP ⟨ha.iA,by omega⟩,cEI hc,cIT hc]
 have:¬iW (val a) (val b)<0:=by unfold iW;rw[if_neg hc];split <;> omega
 have hm:=cAV (val a) (show 0<val b by omega);rw[aM this]
 by_cases Qa:b.length=1
 ·have hv:val b=(b.getD 0 0).toNat:=by
   have:=bR (a:=b) 0;rw[cC (by omega)]at this;simpa [val] using this
  rw[hv]at hm;rw[dU,aR,gP ⟨ha.iA,by omega,by omega,g.2⟩,hv,aE,aE];generalize val a%(b.getD 0 0).toNat=r at *;rw[wrap_u64 (n:=(r:Int)),gP,cCJ]
 ·have w1:i64.wrap ((b.length:Int)-1)=((b.length-1:Nat):Int):=by rw[wrap_i64];omega
  have gt:=hb.iA.get (b.length-1);have aXR:b.getD (b.length-1) 0≠0:=by
   have:=getLast_take (a:=b) (n:=b.length-1) (by omega);rw[show b.length-1+1=b.length from by omega,cFF]at this;exact hb.top this
  have aUY:=bR (a:=b) (b.length-1);rw[show b.length-1+1=b.length from by omega,cFF]at aUY;have bJN:=fY hb.iA (b.length-1);obtain⟨x,hx⟩:=cDO gt.1;have Ku:x≠0:=by omega
  have bVR:bl x<=32:=eF.2 (by omega);have bLM:=mY Ku;have bGQ:=wX x;have bTE:=Rx Ku;obtain⟨s,hs⟩:∃s:Nat,s=32-bl x:=⟨_,rfl⟩;have vQ:b.drop (b.length-1)=[b.getD (b.length-1) 0]:=by
   have h2:=List.drop_eq_getElem_cons (l:=b) (i:=b.length-1) (by omega);rw[show b.length-1+1=b.length by omega,List.drop_length]at h2;rw[h2,cDR,List.getElem?_eq_getElem (by omega)];rfl
  have bRH:val (b.drop (b.length-1))=x:=by
   rw[vQ];show(b.getD (b.length-1) 0).toNat+4294967296*0=x;omega
  have bSH:cO (b.drop (b.length-1)):=M8.Bc hb _;have ws:i64.wrap (32-(bl x:Int))=(s:Int):=by rw[wrap_i64];omega
  have aEX:=cR ha.iA;have bFC:=cR hb.iA;have Ty:2^s<4294967296:=by
   have:2^s<2^32:=cFE (by omega) (by omega);omega
  have Na:0<2^s:=cD;have bHQ:val a*2^s<4294967296^(a.length+1):=by rw[cDL];exact cGW aEX Ty
  have bBU:val b*2^s<4294967296^b.length:=by
   have h2:(x+1)*2^s<=2^bl x*2^s:=cAA _ bGQ;rw[<-cDP,show bl x+s=32 from by omega]at h2;have h3:val b+1<=4294967296^(b.length-1)*(x+1):=by
    rw[aUY,hx,cCJ,cDN];omega
   have h4:(val b+1)*2^s<=4294967296^(b.length-1)*(x+1)*2^s:=cAA _ h3;have h5:4294967296^(b.length-1)*((x+1)*2^s)<=4294967296^(b.length-1)*2^32:=cBB _ h2;have h6:4294967296^(b.length-1)*2^32=4294967296^b.length:=by
    conv=>rhs;rw[show b.length=(b.length-1)+1 from by omega,cDL]
   rw[h6]at h5;rw[cDQ]at h4;rw[bZH]at h4;omega
  have bKM:b.length<=a.length:=by
   rcases Nat.lt_or_ge a.length b.length with h |h
   ·exact absurd (oB ha.iA hb h) hc
   ·exact h
  have Ai:4294967296^(b.length-1)<=val b:=by
   rw[aUY,hx,cCJ];have:4294967296^(b.length-1)*1<=4294967296^(b.length-1)*x:=cBB _ (by omega);omega
  have Rl:val a*2^s/4294967296^(a.length+1-b.length)<val b*2^s:=by
   apply cEF;have h1:4294967296^(a.length+1-b.length)*4294967296^(b.length-1)<=4294967296^(a.length+1-b.length)*val b:=cBB _ Ai;rw[<-cDP,show a.length+1-b.length+(b.length-1)=a.length from by omega]at h1;rw[<-cDQ];exact cGU (bZN aEX h1) Na
  have hQ:val a*2^s/(val b*2^s)=val a/val b:=Nat.mul_div_mul_right _ _ Na;have hR:val a*2^s%(val b*2^s)=val a%val b*2^s:=Nat.mul_mod_mul_right _ _ _;obtain⟨v,hv⟩:∃v,v=dg (val b*2^s):=⟨_,rfl⟩;have vv:val v=val b*2^s:=by rw[hv,bD]
  have dv:bM v:=by rw[hv];exact cA _
  have lv:v.length=b.length:=by
   have h1:v.length<=b.length:=by rw[hv];exact cU bBU
   have h2:b.length-1<v.length:=by
    refine Nat.not_le.1 fun hn=>?_
    have h3:=cR dv;have h4:4294967296^v.length<=4294967296^(b.length-1):=cBN (by omega) hn;have h5:val b*1<=val b*2^s:=cBB _ Na;omega
   omega
  have tv:2147483648<=v.getD (v.length-1) 0:=by
   have gv:=dv.get (v.length-1);have e:=uD.digit dv (v.length-1);have h1:4294967296^(b.length-1)*2147483648<=val v:=by
    have h2:2^(bl x-1)*2^s<=x*2^s:=cAA _ bTE;rw[<-cDP,show bl x-1+s=31 by omega]at h2;have h3:4294967296^(b.length-1)*2^31<=4294967296^(b.length-1)*(x*2^s):=cBB _ h2;have h4:4294967296^(b.length-1)*x<=val b:=by rw[aUY,hx,cCJ];omega
    have h5:4294967296^(b.length-1)*x*2^s<=val b*2^s:=cAA _ h4;rw[cDQ]at h5;rw[vv];exact bZJ h3 h5
   have h2:2147483648<=val v/4294967296^(b.length-1):=by
    rw[Nat.le_div_iff_mul_le (cD),cDM];exact h1
   have h3:val v/4294967296^(b.length-1)<4294967296:=by
    apply cEF;rw[<-cDL,show(b.length-1).succ=b.length by omega,vv];exact bBU
   rw[lv]at e gv ⊢;rw[cIT h3]at e;omega
  have aUZ:(dg (val a*2^s)).length<=a.length+1:=cU bHQ;obtain⟨d,hd⟩:=bZS aUZ;have pad:=bGF (a:=a) (v:=v) (s:=(s:Int)) (r:=none) hl (fun _ _ _=>Or.inr trivial) d (dg (val a*2^s)) (cA _) (by omega);have du:bM (dg (val a*2^s) ++ cAQ d 0):=lS.2 ⟨cA _,gU _⟩;have lu:(dg (val a*2^s) ++ cAQ d 0).length=a.length+1:=by rw[bZQ,cIX];omega
  have vu:val (dg (val a*2^s) ++ cAQ d 0)=val a*2^s:=by rw[iJ,iD,bD];omega
  have wn:i64.wrap (((a.length+1:Nat):Int)-(v.length:Int))=((a.length+1-v.length:Nat):Int):=by rw[wrap_i64];omega
  have bRD:i64.wrap (((a.length+1-v.length:Nat):Int)-1)=((a.length+1-v.length:Nat):Int)-1:=by rw[wrap_i64]
  have fin:=bNF (v:=v) (L:=a.length+1) (U0:=val a*2^s) (s:=s) (by omega) dv (by omega) tv (by omega) (by omega) (a.length+1-v.length) (dg (val a*2^s) ++ cAQ d 0) (cAQ (a.length+1-v.length) 0) (bYN _) lu du (by simp) (gU _) (by rw[vu,vv,lv];exact Rl) (by
   rw[vu,show(cAQ (a.length+1-v.length) (0:Int)).drop (a.length+1-v.length)=[] by simp];show _=_+val v*(_*0);omega)
  rw[vv,hQ,hR,Nat.mul_div_cancel _ Na]at fin;rw[cP,w1,aR];simp only[cCJ,cFF,aE];rw[gP ⟨bSH,by rw[cCM];omega⟩,bRH,ws,gP ⟨hb,by omega,by omega⟩,gP ⟨ha,by omega,by omega⟩,cCJ,<-hv,pad,aOU,aM,wn,aR,cCJ,bRD];exact fin
def aJ:dO:=orc2 (pI .u32) (pI .u32) sp
theorem fnok:tJ prog E 277 f277 aF:=Yb qP mixed (mU _ _ rfl rfl (nN uD.ok wY) (aA wP.ok (aA aPG.ok (aA Norm.ok (aA pJ.ok (aA Fg.ok (aA aQA.ok (aA bAC.ok aD))))))) (oD)) func277 rfl rfl rfl
theorem ok:nR prog base.glob 277 aJ:=fnok.jZ rfl spec
end DivMod
namespace Iu
def E:=mE [(182,Bu.aJ),(277,DivMod.aJ),(140,Mk.aJ),(141,Add.aJ),(142,wP.aJ),(238,Sub.aJ)] 44 [] [(6,[3,4,5,6,7])] [6]
def aF:=bd f275
theorem aU:Nk E aF:=nk
def J6 a b c d e f:=lP E f275 aF 6 [bK 0 117 [bC a,iB b],bK 1 117 [bC c,sc (slice none 0 0)],bK 2 117 [bC d,sc (slice none 0 0)],mP e,mP f]
theorem start a b c d:aG E f275 aF [D.agg [sc (bool a),ints u32 b],D.agg [sc (bool c),ints u32 d]]=letI C:=dg (val b/val d);letI B:=dg (val b%val d);letI A:=aN (bM C/\C.length<=4398046511104) (aN (bM B/\B.length<=4398046511104) (some [D.agg [sc (bool (isNeg (zs a (val C)))),ints u32 (dg (zs a (val C)).natAbs)],D.agg [sc (bool (isNeg (zs false (val B)))),ints u32 (dg (zs false (val B)).natAbs)]]));aN (dS (c,d)) (aC (decide (cZ (zv (c,d)) 0<=(0:Int))) (some [D.agg [sc (bool false),sc (slice none 0 0)],D.agg [sc (bool false),sc (slice none 0 0)]]) (aN (cO b/\cO d/\b.length<=274877906944/\1<=d.length/\d.length<=274877906944) (aC (!a) A (aC ((B.length:Int)==(0:Int)) A (Iu.J6 c d false false C B))))):=eJ aU
theorem sW a b c d e f:J6 a b c d e f=letI B:=dg (val b-val f);letI A:=dg (val e+val (dg 1));aN ((0:Int)<=(1:Int)/\(1:Int)<(18446744073709551616:Int)) (aN (bM e/\bM (dg 1)/\e.length<=1099511627776/\(dg 1).length<=1099511627776) (aN (bM A/\A.length<=4398046511104) (aN (cO b/\cO f/\b.length<=4398046511104/\f.length<=4398046511104) (aN (bM B/\B.length<=4398046511104) (some [D.agg [sc (bool (isNeg (zs true (val A)))),ints u32 (dg (zs true (val A)).natAbs)],D.agg [sc (bool (isNeg (zs false (val B)))),ints u32 (dg (zs false (val B)).natAbs)]]))))):=cJ aU
def sp(x y:Bool×List Int):Prop×List D:=(dS x/\dS y/\y.1=false/\0<y.2.length/\x.2.length<=274877906944/\y.2.length<=274877906944,[zD (zv x/zv y),zD (zv x%zv y)])
theorem aRH(v q:Nat)(hq:0<q):(-(v:Int))%(q:Int)=if v%q=0 then 0 else((q-v%q:Nat):Int):=by
 have h:=nP.Tk v q hq;have hd:=cDT v q;have hm:=cAV v hq;have he:=cHK (-(v:Int)) (q:Int);rw[h]at he
 by_cases hr:v%q=0
 ·rw[if_pos hr]at *;rw[cHI,<-cEW]at he;generalize q*(v/q)=t at *;omega
 ·rw[if_neg hr]at *;rw[Int.mul_sub,cHI,<-cEW,cLQ]at he;generalize q*(v/q)=t at *;generalize v%q=r at *;omega
theorem spec:fF E f275 aF nT nT sp:=by
 rintro x y ⟨hx,hy,hn,hl,lx',ly'⟩;refine(start x.1 x.2 y.1 y.2).trans ((gP hy).trans ?_);have lx:=hx.len;have hz:=cY hy.1;obtain⟨b,a⟩:=x;obtain⟨c,d⟩:=y
 try dsimp only at *
 subst hn;have bSY:zv (false,d)=(val d:Int):=rfl;have qI:0<val d:=by
  have:val d≠0:=fun h=>by have:=hz.2 h;omega
  omega
 have hc:¬cZ (zv (false,d)) 0<=0:=by
  unfold cZ;rw[bI,aR];omega
 have l1:=wB (val a) (val d);have l2:=kB (Nat.mod_le (val a) (val d));have nl:(dg (val a)).length=a.length:=kY hx.1;rw[nl]at l1 l2;rw[aM hc,gP ⟨hx.1,hy.1,by omega,by omega,by omega⟩];show _=some [zD (zv (b,a)/zv (false,d)),zD (zv (b,a)%zv (false,d))];have zf:∀n:Nat,zs false n=(n:Int):=fun _=>rfl
 have zt:∀n:Nat,zs true n=-(n:Int):=fun _=>rfl
 rw[bSY];cases b with
 |false =>
  have bJB:zv (false,a)=(val a:Int):=rfl;rw[cKD,bT,gP ⟨cA _,by omega⟩,gP ⟨cA _,by omega⟩,bJB,<-cEA,<-cFC,bD,bD];rfl
 |true =>
  have bJB:zv (true,a)=-(val a:Int):=rfl;have e1:=nP.Tk (val a) (val d) qI;have e2:=aRH (val a) (val d) qI;have hm:=cAV (val a) qI;rw[cAN,bF,bJB,e1,e2]
  by_cases hr:val a%val d=0
  ·rw[hr,cL,dU (show((([]:List Int).length:Nat):Int)=0 from rfl),if_pos rfl,if_pos rfl,gP ⟨cA _,by omega⟩,gP ⟨lC,by simp⟩,bD];rfl
  ·have bOU:(dg (val a%val d)).length≠0:=fun h=>hr (fZ.1 h)
   have l3:=wF (val a/val d) 1;have l4:=zF (val d) (val a%val d);rw[show(dg (val d)).length=d.length from kY hy.1]at l4;rw[Nq,cMS]at l3;rw[cP,if_neg hr,if_neg hr,sW,gP ⟨by omega,by omega⟩,gP ⟨cA _,cA _,by omega,by rw[Nq];simp⟩,bD,bD,gP ⟨cA _,by omega⟩,gP ⟨hy.1,bA _,by omega,by omega⟩,bD,bD,gP ⟨cA _,by omega⟩,bD,zt,zf];rw[show -(((val a/val d+1:Nat)):Int)=-((val a/val d:Nat):Int)-1 by omega];rfl
def aJ:dO:=orc2 nT nT sp
theorem ok:OK 275 aJ:=(eI E aF (aA Bu.ok (aA DivMod.ok (aA Mk.ok (aA Add.ok (aA wP.ok (aA Sub.ok aD)))))) func275).jZ rfl spec
end Iu
namespace fX
def E:=mE [(216,Jb.aJ),(275,Iu.aJ)] 20 [] [(3,[2,3,4])] [3]
def aF:=bd f262
theorem aU:Nk E aF:=nk
def J3 a b c d e:=lP E f262 aF 3 [bK 0 117 [bC a,iB b],bK 1 117 [bC c,iB d],bK 2 117 [bC e,sc (slice none 0 0)]]
theorem start a b c d:aG E f262 aF [D.agg [sc (bool a),ints u32 b],D.agg [sc (bool c),ints u32 d]]=aC c (aN (dS (a,b)) (aN (dS (c,d)) (fX.J3 (isNeg (-zv (a,b))) (dg (-zv (a,b)).natAbs) (isNeg (-zv (c,d))) (dg (-zv (c,d)).natAbs) false))) (fX.J3 a b c d false):=eJ aU
theorem fH a b c d e:J3 a b c d e=letI A:=zv (a,b)/zv (c,d);aN (dS (a,b)/\dS (c,d)/\c=false/\0<d.length/\b.length<=274877906944/\d.length<=274877906944) (some [D.agg [sc (bool (isNeg A)),ints u32 (dg A.natAbs)]]):=cJ aU
def Vw(x y:Int):Int:=if y<0 then(-x)/(-y)else x/y
def sp(x y:Bool×List Int):Prop×List D:=(dS x/\dS y/\0<y.2.length/\x.2.length<=274877906944/\y.2.length<=274877906944,[zD (Vw (zv x) (zv y))])
theorem aCV{x:Bool×List Int}(h:dS x):dS (isNeg (-zv x),dg (-zv x).natAbs):=qA (by rw[cGD,kQ,kY h.1];exact h.len)
theorem spec:fF E f262 aF nT nT sp:=by
 rintro x y ⟨hx,hy,hl,lx,ly⟩;refine(start x.1 x.2 y.1 y.2).trans ?_;have nx:=aCV hx;have ny:=aCV hy;have bSQ:(dg (-zv x).natAbs).length<=274877906944:=by rw[cGD,kQ,kY hx.1];exact lx
 have hd:dg (-zv y).natAbs=y.2:=by rw[cGD];exact hy.cells.2
 have hz:=cY hy.1;have Fj:zv y≠0:=fun h=>by
  have:=kQ y;have:val y.2=0:=by omega
  omega
 obtain⟨a,p⟩:=x;obtain⟨b,q⟩:=y
 try dsimp only at *
 unfold sp Vw
 try dsimp only
 cases b with
 |false =>
  have hp:zv (false,q)=(val q:Int):=rfl;rw[bF,fH,gP ⟨hx,hy,rfl,hl,lx,ly⟩,bI];rfl
 |true =>
  have hp:zv (true,q)=-(val q:Int):=rfl;have aYC:isNeg (-zv (true,q))=false:=fN.2 (by omega);rw[aYC,hd]at ny ⊢;rw[bT,gP hx,gP hy,fH,gP ⟨nx,ny,rfl,hl,bSQ,ly⟩,jD,aR];have:zv (false,q)=-zv (true,q):=by rw[hp];show(val q:Int)=_;omega
  rw[this];rfl
def aJ:dO:=orc2 nT nT sp
theorem ok:OK 262 aJ:=(eI E aF (aA Jb.ok (aA Iu.ok aD)) func262).jZ rfl spec
end fX
namespace aZY
def E:=mE [(183,Bt.aJ),(258,aOC.aJ),(262,fX.aJ)] 12 [] [] []
def aF:=bd f244
theorem aU:Nk E aF:=nk
theorem start a b c d:aG E f244 aF [D.agg [sc (bool a),ints u32 b],D.agg [sc (bool c),ints u32 d]]=letI C:=fX.Vw (zv (a,b)) (zv (c,d));letI A:=(isNeg C,dg C.natAbs);letI B:=(isNeg (zv (c,d)*zv A),dg (zv (c,d)*zv A).natAbs);aN (dS (a,b)/\dS (c,d)/\0<d.length/\b.length<=274877906944/\d.length<=274877906944) (aN (dS (c,d)/\dS A) (aN (dS (a,b)/\dS B) (some [D.agg [sc (bool (isNeg (zv (a,b)-zv B))),ints u32 (dg (zv (a,b)-zv B).natAbs)]]))):=eJ aU
def sp(x y:Bool×List Int):Prop×List D:=(dS x/\x.2.length<=268435456/\dS y/\y.1=false/\y.2.length=1,[zD (zv x%zv y)])
theorem spec:fF E f244 aF nT nT sp:=by
 rintro x y ⟨hx,lx,hy,hn,hl⟩;refine(start x.1 x.2 y.1 y.2).trans ((gP ⟨hx,hy,by omega,by omega,by omega⟩).trans ?_);have hz:=cY hy.1;have bx:=Iq hx.1.iA lx;have bXP:=Iq (n:=1) hy.1.iA (by omega);have ax:=kQ x;have ay:=kQ y;obtain⟨a,p⟩:=x;obtain⟨b,q⟩:=y
 try dsimp only at *
 subst hn;have hp:zv (false,q)=(val q:Int):=rfl;have qI:0<zv (false,q):=by
  have:val q≠0:=fun h=>by have:=hz.2 h;omega
  omega
 have hf:fX.Vw (zv (a,p)) (zv (false,q))=zv (a,p)/zv (false,q):=by unfold fX.Vw;rw[bI]
 have hq:bl (zv (a,p)/zv (false,q)).natAbs<=8589934592:=bZJ (gD (by rw[hp];exact qL (by omega))) (by rw[ax];omega);have hm:bl (zv (false,q)*(zv (a,p)/zv (false,q))).natAbs<=8589934700:=by
  rw[cEC];refine bZJ (mK _ _) ?_;rw[ay];omega
 rw[hf,gP ⟨hy,eA hq (by omega)⟩,jD,gP ⟨hx,eA hm (by omega)⟩,jD];have:zv (a,p)-zv (false,q)*(zv (a,p)/zv (false,q))=zv (a,p)%zv (false,q):=by
  have:=cHK (zv (a,p)) (zv (false,q));omega
 rw[this];rfl
def aJ:dO:=orc2 nT nT sp
theorem ok:OK 244 aJ:=(eI E aF (aA Bt.ok (aA aOC.ok (aA fX.ok aD))) func244).jZ rfl spec
end aZY
namespace oM
def E:=mE [(216,Jb.aJ),(262,fX.aJ)] 10 [] [] []
def aF:=bd f264
theorem aU:Nk E aF:=nk
theorem start a b c d:aG E f264 aF [D.agg [sc (bool a),ints u32 b],D.agg [sc (bool c),ints u32 d]]=aN (dS (a,b)) (aB (isNeg (-zv (a,b))) fun e=>aB (dg (-zv (a,b)).natAbs) fun f=>letI A:=fX.Vw (zv (e,f)) (zv (c,d));aN (dS (e,f)/\dS (c,d)/\0<d.length/\f.length<=274877906944/\d.length<=274877906944) (aB (isNeg A) fun g=>aB (dg A.natAbs) fun h=>aN (dS (g,h)) (aB (isNeg (-zv (g,h))) fun i=>aB (dg (-zv (g,h)).natAbs) fun j=>some [D.agg [sc (bool i),ints u32 j]]))):=eJ aU
def Dq(a b:Int):Int:=-fX.Vw (-a) b
theorem aFB{a b:Int}(hb:b≠0):(fX.Vw a b).natAbs<=a.natAbs+1:=by
 have key:∀u v:Int,0<v->(u/v).natAbs<=u.natAbs+1:=by
  intro u v hv;obtain⟨n,rfl⟩:=cDO (cBT hv);have:=qL (z:=u) (q:=n) (by omega);omega
 unfold fX.Vw;split
 ·have:=key (-a) (-b) (by omega);omega
 ·exact key a b (by omega)
def sp(x y:Bool×List Int):Prop×List D:=(dS x/\dS y/\0<y.2.length/\x.2.length<=274877906942/\y.2.length<=274877906944,[zD (Dq (zv x) (zv y))])
theorem spec:fF E f264 aF nT nT sp:=by
 rintro x y ⟨hx,hy,h0,lx,ly⟩;refine(start x.1 x.2 y.1 y.2).trans ((gP hx).trans ?_);have aGS:zv (x.1,x.2)=zv x:=rfl;have bJD:zv (y.1,y.2)=zv y:=rfl;have y0:zv y≠0:=fun hz=>by have:=kQ y;have:=(cY hy.1).2 (by omega);omega
 have ax:(dg (-zv x).natAbs).length=x.2.length:=by rw[cGD,kQ,kY hx.1]
 have af:(dg (fX.Vw (-zv x) (zv y)).natAbs).length<=x.2.length+2:=by
  refine bZJ (kB (aFB y0)) ?_;have:=wF (-zv x).natAbs 1;rw[Nq,cMS]at this;omega
 simp only[aE,aGS,bJD,jD];rw[gP ⟨qA (by omega),hy,h0,by omega,ly⟩,gP (qA (by omega))];rfl
def aJ:dO:=orc2 nT nT sp
theorem ok:OK 264 aJ:=(eI E aF (aA Jb.ok (aA fX.ok aD)) func264).jZ rfl spec
end oM
namespace Oh
def E:=mE [(183,Bt.aJ),(182,Bu.aJ)] 9 [8] [] []
def aF:=bd f137
theorem aU:Nk E aF:=nk
theorem start a b c d:aG E f137 aF [D.agg [sc (bool a),ints u32 b],D.agg [sc (bool c),ints u32 d]]=letI B:=zv (a,b)-zv (c,d);letI A:=(isNeg B,dg B.natAbs);aN (dS (a,b)/\dS (c,d)) (aN (dS A) (some [D.s (sc (int i64 (cZ (zv A) 0)))])):=eJ aU
def sp(x y:Bool×List Int):Prop×List D:=(dS x/\dS y/\x.2.length<549755813888/\y.2.length<549755813888,[.s (.sc (.int .i64 (cZ (zv x) (zv y))))])
theorem aRQ{x y:Bool×List Int}(hx:dS x)(hy:dS y){n:Nat}(h1:x.2.length<n)(h2:y.2.length<n):(dg (zv x-zv y).natAbs).length<=n:=by
 have h3:(zv x-zv y).natAbs<=val x.2+val y.2:=by
  have:=kQ x;have:=kQ y;omega
 have h4:=kB h3;have h5:=wF (val x.2) (val y.2);rw[kY hx.1,kY hy.1]at h5;omega
theorem spec:fF E f137 aF nT nT sp:=by
 intro x y h;refine(start x.1 x.2 y.1 y.2).trans ?_;obtain⟨hx,hy,h1,h2⟩:=h;rw[gP ⟨hx,hy⟩,gP (qA (aRQ hx hy h1 h2)),jD,aNR];rfl
def aJ:dO:=orc2 nT nT sp
theorem ok:OK 137 aJ:=(eI E aF (aA Bt.ok (aA Bu.ok aD)) func137).jZ rfl spec
end Oh
namespace bHY
def E:=mE [] 24 [] [(3,[0,1])] [3]
def aF:=bd f227
theorem aU:Nk E aF:=nk
def J3 a b:=lP E f227 aF 3 [mP a,bJ b]
theorem start a b:aG E f227 aF [D.s (ints u32 a),D.s (sc (int i64 b))]=letI A:=some [D.s (sc (int i64 0))];aC (decide (b<0)) A (aC (decide ((a.length:Int)<=i64.wrap (b.tdiv 32))) A (bHY.J3 a b)):=eJ aU
theorem fH a b:J3 a b=letI A:=b.tdiv 32;if 0<=i64.wrap A/\i64.wrap A<(a.length:Int)then if b.tmod 32<(0:Int)then none else some [D.s (sc (int i64 (i64.wrap (gR BinOp.and u32 (a.getD (i64.wrap A).toNat 0/(↑((2:Nat)^min (b.tmod 32).toNat 32):Int)) 1))))]else none:=cJ aU
theorem aHX{x:Int}(h:0<=x)(h':x<4294967296):gR .and .u32 x 1=x%2:=by
 obtain⟨n,rfl⟩:=cDO h;rw[wO];unfold bitsI0;simp only;have e:(BitVec.ofInt u32.bits (n:Int) &&& BitVec.ofInt u32.bits 1).toNat=n%2:=by
  show(BitVec.ofInt 32 (n:Int) &&& BitVec.ofInt 32 1).toNat=_;rw[BitVec.toNat_and];have e1:(BitVec.ofInt 32 (n:Int)).toNat=n:=by simp;omega
  have e2:(BitVec.ofInt 32 1).toNat=1:=by decide
  rw[e1,e2,Nat.and_one_is_mod]
 rw[e,wrap_u32];omega
def sp(a:List Int)(i:Int):Prop×List D:=(bM a/\a.length<=1099511627776/\-9223372036854775808<=i/\i<9223372036854775808,[.s (.sc (.int .i64 (if i<0 then 0 else((val a/2^i.toNat%2:Nat):Int))))])
theorem spec:fF E f227 aF (pI .u32) (pN .i64) sp:=by
 rintro a i ⟨ha,hl,h1,h2⟩;refine(start a i).trans ?_;show _=some [D.s (.sc (.int .i64 (if i<0 then 0 else((val a/2^i.toNat%2:Nat):Int))))]
 by_cases hn:i<0
 ·rw[aO hn,if_pos hn]
 ·have t1:i.tdiv 32=i/32:=cFZ (by omega);have t2:i.tmod 32=i%32:=cGA (by omega);have e1:(i/32).toNat=i.toNat/32:=by omega
  have e2:(i%32).toNat=i.toNat%32:=by omega
  rw[aM hn,if_neg hn,t1,wrap_i64 (n:=i/32),xV i.toNat,<-cEB]
  by_cases hz:(a.length:Int)<=i/32
  ·have hv:val a/4294967296^(i.toNat/32)=0:=by
    apply cEI;exact bZN (cR ha) (gO)
   rw[aO hz,hv,Nat.zero_div];rfl
  ·have g:=ha.get (i.toNat/32);rw[aM hz,fH,t1,t2,wrap_i64 (n:=i/32),aR,bI,e1,e2,<-iP ha,gH];have em:min (i.toNat%32) 32=i.toNat%32:=by omega
   have jM:i.toNat%32<32:=cAV _ (by omega);rw[em];generalize i.toNat%32=k at *;generalize a.getD (i.toNat/32) 0=x at *;generalize val (a.drop (i.toNat/32+1))=r at *;have hp:0<2^k:=cD;have e3:(x.toNat+4294967296*r)/2^k%2=x.toNat/2^k%2:=by
    have:4294967296*r=2^k*(2*(2^(31-k)*r)):=by
     rw[show(4294967296:Nat)=2^32 from rfl,show 32=k+(1+(31-k))from by omega,cDP,cDP,cDQ,cDQ]
    rw[this,cFB _ _ hp];omega
   rw[e3];have ex:x/((2^k:Nat):Int)=((x.toNat/2^k:Nat):Int):=by
    obtain⟨n,rfl⟩:=cDO g.1;rw[<-cEA];rfl
   have hle:x.toNat/2^k<=x.toNat:=cGV _ _;rw[ex];clear ex e3;generalize x.toNat/2^k=q at *;rw[aHX (by omega) (by omega),wrap_i64];rfl
def aJ:dO:=orc2 (pI .u32) (pN .i64) sp
theorem ok:OK 227 aJ:=(eI E aF aD func227).jZ rfl spec
end bHY
namespace aOD
def E:=mE [(227,bHY.aJ)] 7 [] [] []
def aF:=bd f276
theorem aU:Nk E aF:=nk
theorem start a b:aG E f276 aF [D.agg [sc (bool a),ints u32 b]]=aN (bM b/\b.length<=1099511627776/\(-9223372036854775808:Int)<=(0:Int)/\(0:Int)<(9223372036854775808:Int)) (some [D.s (sc (bool ((if(0:Int)<(0:Int)then(0:Int)else(↑(val b/1%(2:Nat)):Int))==0)))]):=eJ aU
def sp(x:Bool×List Int):Prop×List D:=(dS x,[.s (.sc (.bool (decide (zv x%2=0))))])
theorem spec:iH E f276 aF nT sp:=by
 intro x h;have h:dS x:=h;refine(start x.1 x.2).trans ((gP ⟨h.1.iA,by have:=h.len;omega,by decide,by decide⟩).trans ?_);have e:((if(0:Int)<0 then 0 else((val x.2/1%2:Nat):Int))==0)=decide (zv x%2=0):=by
  have ha:=kQ x;rw[if_neg (by decide),cKC]
  by_cases c:zv x%2=0
  ·rw[dqT c];exact beq_iff_eq.2 (by omega)
  ·rw[dqF c];exact beq_eq_false_iff_ne.2 (by omega)
 exact congrArg (fun b:Bool=>some [D.s (.sc (.bool b))]) e
def aJ:dO:=orc1 nT sp
theorem ok:OK 276 aJ:=(eI E aF (aA bHY.ok aD) func276).oV rfl spec
end aOD
namespace pZ
def E:=mE [(275,Iu.aJ),(137,Oh.aJ),(136,Bv.aJ),(276,aOD.aJ),(215,Vc.aJ),(89,aCC.aJ)] 33 [] [] []
def aF:=bd f271
theorem aU:Nk E aF:=nk
theorem start a b c d:aG E f271 aF [D.agg [sc (bool a),ints u32 b],D.agg [sc (bool c),ints u32 d]]=letI G:=zv (a,b)%zv (c,d);letI F:=zv (a,b)/zv (c,d);aN (dS (a,b)/\dS (c,d)/\c=false/\0<d.length/\b.length<=274877906944/\d.length<=274877906944) (aB (isNeg F) fun e=>aB (dg F.natAbs) fun f=>letI C:=dS (e,f)/\dS (isNeg 1,dg 1);letI B:=some [D.agg [sc (bool e),ints u32 f]];letI A:=zv (e,f)+zv (isNeg 1,dg 1);aB (isNeg G) fun g=>aB (dg G.natAbs) fun h=>aN (dS (g,h)/\(1:Int)<=(1099511627776:Int)) (aB (isNeg (zv (g,h)*2)) fun i=>aB (dg (zv (g,h)*2).natAbs) fun j=>aN (dS (i,j)/\dS (c,d)/\j.length<549755813888/\d.length<549755813888) (aB (cZ (zv (i,j)) (zv (c,d))) fun k=>aC (decide (0<k)) (aN ((-9223372036854775808:Int)<=(1:Int)/\(1:Int)<(9223372036854775808:Int)) (aN C (aB (isNeg A) fun l=>aB (dg A.natAbs) fun m=>some [D.agg [sc (bool l),ints u32 m]]))) (aC (k==0) (aN (dS (e,f)) (aB (decide (zv (e,f)%2=(0:Int))) fun n=>aC (!n) (aN ((-9223372036854775808:Int)<=(1:Int)/\(1:Int)<(9223372036854775808:Int)) (aN C (aB (isNeg A) fun o=>aB (dg A.natAbs) fun p=>some [D.agg [sc (bool o),ints u32 p]]))) B)) B)))):=eJ aU
def Pv(a b:Int):Int:=a/b+(if b<a%b*2\/(a%b*2=b/\a/b%2≠0)then 1 else 0)
def sp(x y:Bool×List Int):Prop×List D:=(dS x/\dS y/\y.1=false/\0<y.2.length/\x.2.length<=274877906942/\y.2.length<=274877906942,[zD (Pv (zv x) (zv y))])
theorem aSV{a b:Int}(hb:0<b):(dg (a/b).natAbs).length<=(dg a.natAbs).length:=by
 obtain⟨n,rfl⟩:=cDO (cBT hb);exact kB (qL (by omega))
theorem spec:fF E f271 aF nT nT sp:=by
 rintro x y ⟨hx,hy,hs,h0,lx,ly⟩;refine(start x.1 x.2 y.1 y.2).trans ((gP ⟨hx,hy,hs,h0,by omega,by omega⟩).trans ?_);have aGS:zv (x.1,x.2)=zv x:=rfl;have bJD:zv (y.1,y.2)=zv y:=rfl;have yp:0<zv y:=by
  have h1:zv y=(val y.2:Int):=Zw hs;have:val y.2≠0:=fun hz=>by have:=(cY hy.1).2 hz;omega
  omega
 have bSN:(dg (zv y).natAbs).length=y.2.length:=by rw[kQ,kY hy.1]
 have lxx:(dg (zv x).natAbs).length=x.2.length:=by rw[kQ,kY hx.1]
 have r0:=cHL (zv x) (show zv y≠0 by omega);have r1:=cHM (zv x) yp;have lr:(dg (zv x%zv y).natAbs).length<=y.2.length:=by rw[<-bSN];exact kB (by omega)
 have l2:(dg (zv x%zv y*2).natAbs).length<=y.2.length+1:=by
  rw[cEC];have:=zG (zv x%zv y).natAbs 1;rw[Nat.pow_one]at this;exact bZJ this (by omega)
 have lq:=aSV (a:=zv x) yp;have two:(2:Int)^(1:Int).toNat=2:=rfl;have k1:dS (isNeg 1,dg 1):=qA (z:=1) (by show(dg 1).length<=_;rw[Nq];simp);have v1:zv (isNeg 1,dg 1)=1:=jD 1;have kq:dS (isNeg (zv x/zv y),dg (zv x/zv y).natAbs):=qA (by omega);have cz:∀u v:Int,cZ u v=if u<v then -1 else if v<u then 1 else 0:=fun _ _=>rfl
 simp only[aE,aGS,bJD,jD,v1];rw[gP ⟨qA (by omega),by decide⟩,gP ⟨qA (by omega),hy,by omega,by omega⟩];unfold sp Pv;dsimp only;generalize zv x/zv y=q at *;generalize zv x%zv y=r at *;rw[cz]
 by_cases c1:zv y<r*2
 ·rw[if_neg (show ¬r*2<zv y by omega),if_pos c1,aO (by decide),gP ⟨by decide,by decide⟩,gP ⟨kq,k1⟩,if_pos (Or.inl c1)];rfl
 ·by_cases c2:r*2<zv y
  ·rw[if_pos c2,aM (by decide),cP (by decide),bI,cJV];rfl
  ·rw[if_neg c2,if_neg c1,aM (by decide),dU rfl,gP kq]
   by_cases c3:q%2=0
   ·rw[dqT c3,cAN,bF,bI,cJV];rfl
   ·rw[dqF c3,cKD,bT,gP ⟨by decide,by decide⟩,gP ⟨kq,k1⟩,if_pos (Or.inr ⟨by omega,c3⟩)];rfl
def aJ:dO:=orc2 nT nT sp
theorem ok:OK 271 aJ:=(eI E aF (aA Iu.ok (aA Oh.ok (aA Bv.ok (aA aOD.ok (aA Vc.ok (aA aCC.ok aD)))))) func271).jZ rfl spec
end pZ
end W
namespace M
open Go AI W
def t7(m e:Int):Int:=(if(bl m.natAbs:Int)+e>0 then(bl m.natAbs:Int)+e else 0)+4
def x7(m e q:Int):Int:=nI.aAJ m (e+(q+t7 m e))
def aKB(m e q:Int):Bool:=decide (t7 m e=4)&&decide (((x7 m e q).natAbs:Int)*4<=((2^(q+t7 m e).toNat*3:Nat):Int))
def k7(m e q:Int):Int:=bif aKB m e q then 0 else pZ.Pv (x7 m e q*2) (R.pF (q+t7 m e).toNat:Nat)
def y7(m e q:Int):Int:=bif aKB m e q then nI.aAJ m (e+q)else(x7 m e q*2-k7 m e q*(R.pF (q+t7 m e).toNat:Nat))/((2^(t7 m e+1).toNat:Nat):Int)
end M
namespace W
open Go AI M
namespace aCD
def E:=mE [(140,Mk.aJ)] 6 [] [] []
def aF:=bd f184
theorem aU:Nk E aF:=nk
theorem start a b:aG E f184 aF [D.agg [sc (bool a),ints u32 b]]=aN (bM b/\b.length<=4398046511104) (some [D.agg [sc (bool (isNeg (zs false (val b)))),ints u32 (dg (zs false (val b)).natAbs)]]):=eJ aU
def sp(x:Bool×List Int):Prop×List D:=(dS x,[zD ((zv x).natAbs:Nat)])
theorem spec:iH E f184 aF nT sp:=by
 intro x h;have h:dS x:=h;refine(start x.1 x.2).trans ((gP ⟨h.1.iA,by have:=h.len;omega⟩).trans ?_);show _=some [zD ((zv x).natAbs:Nat)];rw[kQ];rfl
def aJ:dO:=orc1 nT sp
theorem ok:OK 184 aJ:=(eI E aF (aA Mk.ok aD) func184).oV rfl spec
end aCD
namespace kO
def E:=mE [(182,Bu.aJ),(184,aCD.aJ),(137,Oh.aJ),(136,Bv.aJ),(183,Bt.aJ)] 38 [] [(3,[1,2]),(6,[1,2,5])] [3,6]
def aF:=bd f138
theorem aU:Nk E aF:=nk
def J3 a b c d e f:=lP E f138 aF 3 [bJ a,bK 1 161 [bC b,iB c,bC d,iB e,cV f]]
def J6 a b c d e f g h:=lP E f138 aF 6 [bJ a,bK 1 161 [bC b,iB c,bC d,iB e,cV f],bK 2 117 [bC g,iB h]]
theorem start a c d e f b:aG E f138 aF [D.agg [sc (bool a),ints u32 c,sc (bool d),ints u32 e,sc (int i64 f)],D.s (sc (int i64 b))]=letI B:=cZ (zv (a,c)) 0;letI A:=some [D.s (sc (bool false))];aN (dS (a,c)) (aB B fun g=>aN (dS (d,e)) (aB (cZ (zv (d,e)) 0) fun h=>aC (g !=h) A (aN (dS (a,c)) (aB B fun i=>aC (i==0) A (kO.J3 b a c d e f))))):=eJ aU
theorem fH a b c d e f:J3 a b c d e f=letI B:=(↑(zv (d,e)).natAbs:Int);letI A:=(↑(zv (b,c)).natAbs:Int);aN (dS (b,c)) (aB (isNeg A) fun g=>aB (dg A.natAbs) fun h=>aC b (aN (dS (d,e)) (aB (isNeg B) fun i=>aB (dg B.natAbs) fun j=>kO.J6 a b c d e f i j)) (kO.J6 a b c d e f g h)):=cJ aU
theorem sW a b c d e f g h:J6 a b c d e f g h=letI B:=zv (d,e)-zv (b,c);aN (dS (d,e)/\dS (b,c)) (aB (isNeg B) fun i=>aB (dg B.natAbs) fun j=>letI A:=zv (i,j)*(2:Int)^a.toNat;aN (dS (i,j)/\a<=1099511627776) (aB (isNeg A) fun k=>aB (dg A.natAbs) fun l=>aN (dS (k,l)/\dS (g,h)/\l.length<549755813888/\h.length<549755813888) (aB (cZ (zv (k,l)) (zv (g,h))) fun m=>some [D.s (sc (bool (decide (m<=0))))]))):=cJ aU
abbrev bAH:=Bool×List Int×Bool×List Int×Int
def nL(s:bAH):Bool×List Int:=(s.1,s.2.1)
def nH(s:bAH):Bool×List Int:=(s.2.2.1,s.2.2.2.1)
def Zk(a b p:Int):Bool:=bif cZ a 0 !=cZ b 0 then false else bif cZ a 0==0 then false else decide ((b-a)*2^p.toNat<=bif isNeg a then((b.natAbs:Nat):Int)else((a.natAbs:Nat):Int))
def sp(s:bAH)(p:Int):Prop×List D:=(dS (nL s)/\dS (nH s)/\(nL s).2.length<=134217728/\(nH s).2.length<=134217728/\(0<=p/\p<=134217728),[.s (.sc (.bool (Zk (zv (nL s)) (zv (nH s)) p)))])
theorem aFT(n:Nat):bl (2^n)=n+1:=by
 have h1:=eF (n:=2^n) (k:=n+1);have h2:=tD (n:=2^n) (k:=n);have:2^n<2^(n+1):=cFE (by omega) (by omega);have:=h1.2 this;have:=h2.2 (bYN _);omega
theorem aWG{a b:Int}{k:Nat}(ha:bl a.natAbs<=k)(hb:bl b.natAbs<=k):bl (b-a).natAbs<=k+1:=by
 refine bZJ (gD (show(b-a).natAbs<=b.natAbs+a.natAbs by omega)) (bZJ (qV _ _) ?_);omega
theorem spec:fF E f138 aF (pG (.pair sB (.pair (sI .u32) (.pair sB (.pair (sI .u32) (sN .i64)))))) (pN .i64) sp:=by
 rintro s p ⟨h1,h2,l1,l2,p0,p1⟩;refine(start s.1 s.2.1 s.2.2.1 s.2.2.2.1 s.2.2.2.2 p).trans ?_;have e1:(s.1,s.2.1)=nL s:=rfl;have e2:(s.2.2.1,s.2.2.2.1)=nH s:=rfl;have b1:=Iq h1.1.iA l1;have b2:=Iq h2.1.iA l2;rw[<-kQ]at b1 b2;have bs:=aWG (a:=zv (nL s)) (b:=zv (nH s)) (k:=4294967296) (by omega) (by omega);obtain⟨n,rfl⟩:=cDO p0;have bm:bl ((zv (nH s)-zv (nL s))*2^n).natAbs<=4429185026:=by
  rw[cEC,cMQ];refine bZJ (mK _ _) ?_;have:=aFT n;show _+bl (2^n)<=_;omega
 have km:dS (isNeg ((zv (nH s)-zv (nL s))*2^n),dg ((zv (nH s)-zv (nL s))*2^n).natAbs):=eA bm (by omega);have lm:=fJ bm;have kA:∀{z:Int} {k:Nat},bl z.natAbs<=k->k<=17179869184->dS (isNeg (z.natAbs:Int),dg z.natAbs):=by
  intro z k h1 h2;have:=eA (z:=(z.natAbs:Int)) (k:=k) (by rw[cED];exact h1) h2;rwa [cED]at this
 have vA:∀n:Nat,zv (isNeg (n:Int),dg n)=(n:Int):=fun n=>by
  have:=jD (n:Int);rwa [cED]at this
 have fin:∀(z:Int),bl z.natAbs<=4294967296->J6 (n:Int) s.1 s.2.1 s.2.2.1 s.2.2.2.1 s.2.2.2.2 (isNeg (z.natAbs:Int)) (dg z.natAbs)=some [.s (.sc (.bool (decide ((zv (nH s)-zv (nL s))*2^n<=(z.natAbs:Int)))))]:=by
  intro z hz;have lz:=fJ hz;rw[sW];simp only[e1,e2,aE,jD,vA,cCJ];rw[gP ⟨h2,h1⟩,gP ⟨eA bs (by omega),by omega⟩,gP ⟨km,kA hz (by omega),by omega,by omega⟩];congr 5
  by_cases c:(zv (nH s)-zv (nL s))*2^n<=(z.natAbs:Int)
  ·rw[dqT c];exact dqT (by unfold cZ;split <;> (try split) <;> omega)
  ·rw[dqF c];exact dqF (by unfold cZ;split <;> (try split) <;> omega)
 unfold sp Zk;dsimp only;rw[cCJ];simp only[e1,e2,aE];rw[gP h1,gP h2];have neg:isNeg (zv (nL s))=s.1:=h1.cells.1;cases hc:(cZ (zv (nL s)) 0 !=cZ (zv (nH s)) 0)with
 |true=>rw[bT];rfl
 |false =>
  rw[bF,gP h1,cond_false];cases hz:(cZ (zv (nL s)) 0==0)with
  |true=>rw[bT];rfl
  |false =>
   rw[bF,fH,cond_false,neg];simp only[e1,e2,aE];rw[gP h1];cases hn:s.1 with
   |true =>
    have f:=fin (zv (nH s)) (by omega);rw[hn]at f;rw[bT,gP h2,cond_true];exact f
   |false =>
    have f:=fin (zv (nL s)) (by omega);rw[hn]at f;rw[bF,cond_false];exact f
def aJ:dO:=orc2 (pG (.pair sB (.pair (sI .u32) (.pair sB (.pair (sI .u32) (sN .i64)))))) (pN .i64) sp
theorem ok:OK 138 aJ:=(eI E aF (aA Bu.ok (aA aCD.ok (aA Oh.ok (aA Bv.ok (aA Bt.ok aD))))) func138).jZ rfl spec
end kO
namespace vO
def E:=mE [(183,Bt.aJ),(89,aCC.aJ),(215,Vc.aJ)] 17 [] [] []
def aF:=bd f246
theorem aU:Nk E aF:=nk
theorem start a d b c:aG E f246 aF [D.agg [sc (bool a),ints u32 d],D.s (sc (int i64 b)),D.s (sc (int i64 c))]=letI A:=(isNeg b,dg b.natAbs);letI B:=dS (a,d)/\dS A;aN ((-9223372036854775808:Int)<=b/\b<9223372036854775808) (aN B (aB (isNeg (zv (a,d)-zv A)) fun e=>aB (dg (zv (a,d)-zv A).natAbs) fun f=>aN ((-9223372036854775808:Int)<=b/\b<9223372036854775808) (aN B (aB (isNeg (zv (a,d)+zv A)) fun g=>aB (dg (zv (a,d)+zv A).natAbs) fun h=>some [D.agg [sc (bool e),ints u32 f,sc (bool g),ints u32 h,sc (int i64 c)]])))):=eJ aU
def aXB(a b q:Int):D:=.agg [.sc (.bool (isNeg a)),.ints .u32 (dg a.natAbs),.sc (.bool (isNeg b)),.ints .u32 (dg b.natAbs),.sc (.int .i64 q)]
def sp(x:Bool×List Int)(o q:Int):Prop×List D:=(dS x/\-9223372036854775808<=o/\o<9223372036854775808,[aXB (zv x-o) (zv x+o) q])
theorem spec:uQ E f246 aF nT (pN .i64) (pN .i64) sp:=by
 rintro x o q ⟨hx,h0,h1⟩;have ko:dS (isNeg o,dg o.natAbs):=eA (k:=64) (eF.2 (by have:(2:Nat)^64=18446744073709551616:=rfl;omega)) (by decide);refine(start x.1 x.2 o q).trans ?_;rw[gP ⟨h0,h1⟩,gP ⟨hx,ko⟩,aE,aE,gP ⟨h0,h1⟩,gP ⟨hx,ko⟩,aE,aE,jD];rfl
def aJ:dO:=orc3 nT (pN .i64) (pN .i64) sp
theorem ok:OK 246 aJ:=(eI E aF (aA Bt.ok (aA aCC.ok (aA Vc.ok aD))) func246).Dn rfl spec
end vO
namespace gY
def E:=mE [(216,Jb.aJ),(262,fX.aJ),(136,Bv.aJ),(264,oM.aJ)] 59 [] [(3,[2,3,4]),(6,[2,3,4,5,6]),(8,[2,4,5,6])] [3,6,8]
def aF:=bd f247
theorem aU:Nk E aF:=nk
def J3 a b c d e f g h i j k l m:=lP E f247 aF 3 [bK 0 161 [bC a,iB b,bC c,iB d,cV e],bK 1 161 [bC f,iB g,bC h,iB i,cV j],bK 2 161 [bC k,sc (slice none 0 0),bC l,sc (slice none 0 0),cV m]]
def J6 a b c d e f g h i j k l m n o p q:=lP E f247 aF 6 [bK 0 161 [bC a,iB b,bC c,iB d,cV e],bK 1 161 [bC f,iB g,bC h,iB i,cV j],bK 2 161 [bC k,sc (slice none 0 0),bC l,sc (slice none 0 0),cV m],bK 3 117 [bC n,iB o],bK 4 117 [bC p,iB q]]
def J8 a b c d e f g h i j k l:=lP E f247 aF 8 [bK 0 161 [bC a,iB b,bC c,iB d,cV e],bK 1 161 [bC f,sc (slice none 0 0),bC g,sc (slice none 0 0),cV h],bK 2 117 [bC i,iB j],bK 3 117 [bC k,iB l]]
theorem start a b c d e f g h i j:aG E f247 aF [D.agg [sc (bool a),ints u32 b,sc (bool c),ints u32 d,sc (int i64 e)],D.agg [sc (bool f),ints u32 g,sc (bool h),ints u32 i,sc (int i64 j)]]=aC f (aN (dS (c,d)) (aB (isNeg (-zv (c,d))) fun k=>aB (dg (-zv (c,d)).natAbs) fun l=>aN (dS (a,b)) (aB (isNeg (-zv (a,b))) fun m=>aB (dg (-zv (a,b)).natAbs) fun n=>aN (dS (h,i)) (aB (isNeg (-zv (h,i))) fun o=>aB (dg (-zv (h,i)).natAbs) fun p=>aN (dS (f,g)) (aB (isNeg (-zv (f,g))) fun q=>aB (dg (-zv (f,g)).natAbs) fun r=>gY.J3 k l m n e o p q r j false false 0))))) (gY.J3 a b c d e f g h i j false false 0):=eJ aU
theorem fH a b c d e f g h i j k l m:J3 a b c d e f g h i j k l m=aC a (gY.J6 a b c d e f g h i j k l m f g f g) (gY.J6 a b c d e f g h i j k l m h i f g):=cJ aU
theorem sW a b c d e f g h i j k l m n o p q:J6 a b c d e f g h i j k l m n o p q=aC c (gY.J8 a b c d e k l m n o h i) (gY.J8 a b c d e k l m n o p q):=cJ aU
theorem Al a b c d e f g h i j k l:J8 a b c d e f g h i j k l=letI F:=zv (c,d)*(2:Int)^e.toNat;letI C:=zv (a,b)*(2:Int)^e.toNat;aN (dS (a,b)/\e<=1099511627776) (aB (isNeg C) fun m=>aB (dg C.natAbs) fun n=>letI A:=fX.Vw (zv (m,n)) (zv (i,j));aN (dS (m,n)/\dS (i,j)/\0<j.length/\n.length<=274877906944/\j.length<=274877906944) (aB (isNeg A) fun o=>aB (dg A.natAbs) fun p=>aN (dS (c,d)/\e<=1099511627776) (aB (isNeg F) fun q=>aB (dg F.natAbs) fun r=>letI B:=oM.Dq (zv (q,r)) (zv (k,l));aN (dS (q,r)/\dS (k,l)/\0<l.length/\r.length<=274877906942/\l.length<=274877906944) (aB (isNeg B) fun s=>aB (dg B.natAbs) fun t=>some [D.agg [sc (bool o),ints u32 p,sc (bool s),ints u32 t,sc (int i64 e)]])))):=cJ aU
def aGI(aL aH bL bH:Int)(q:Int):Int×Int:=(fX.Vw (aL*2^q.toNat) (bif isNeg aL then bL else bH),oM.Dq (aH*2^q.toNat) (bif isNeg aH then bH else bL))
def Vu(aL aH bL bH:Int)(q:Int):Int×Int:=bif isNeg bL then aGI (-aH) (-aL) (-bH) (-bL) q else aGI aL aH bL bH q
open kO in
def sp (s t:bAH):Prop×List D:=((dS (nL s)/\dS (nH s)/\dS (nL t)/\dS (nH t))/\(bl (zv (nL s)).natAbs<=500000/\bl (zv (nH s)).natAbs<=500000/\bl (zv (nL t)).natAbs<=500000/\bl (zv (nH t)).natAbs<=500000)/\(0<=s.2.2.2.2/\s.2.2.2.2<=500000)/\zv (nL t)≠0/\zv (nH t)≠0,
 [vO.aXB (Vu (zv (nL s)) (zv (nH s)) (zv (nL t)) (zv (nH t)) s.2.2.2.2).1 (Vu (zv (nL s)) (zv (nH s)) (zv (nL t)) (zv (nH t)) s.2.2.2.2).2 s.2.2.2.2])
theorem vU{z:Int}{q:Int}(hz:bl z.natAbs<=500000)(hq:q<=500000):bl (z*2^q.toNat).natAbs<=1000000:=by
 rw[cEC,cMQ];exact bZJ (cN.Dd hz) (by omega)
theorem bHW{aL aH u o q x9:Int}{b5 b6:Bool}(ha:bl aL.natAbs<=500000)(hb:bl aH.natAbs<=500000)(hu:bl u.natAbs<=500000)(ho:bl o.natAbs<=500000)(q0:0<=q)(q1:q<=500000)(u0:u≠0)(o0:o≠0) :
  J8 (isNeg aL) (dg aL.natAbs) (isNeg aH) (dg aH.natAbs) q b5 b6 x9 (isNeg u) (dg u.natAbs) (isNeg o) (dg o.natAbs)=some [vO.aXB (fX.Vw (aL*2^q.toNat) u) (oM.Dq (aH*2^q.toNat) o) q]:=by
 have l1:=fJ (vU ha q1);have l2:=fJ (vU hb q1);have l3:=fJ hu;have l4:=fJ ho;have n3:0<(dg u.natAbs).length:=by have:=fZ (n:=u.natAbs);omega
 have n4:0<(dg o.natAbs).length:=by have:=fZ (n:=o.natAbs);omega
 rw[Al];simp only[aE,jD];rw[gP ⟨eA ha (by omega),by omega⟩,gP ⟨eA (vU ha q1) (by omega),eA hu (by omega),n3,by omega,by omega⟩,gP ⟨eA hb (by omega),by omega⟩,gP ⟨eA (vU hb q1) (by omega),eA ho (by omega),n4,by omega,by omega⟩];rfl
theorem bQT{aL aH bL bH q x9 x12:Int}{b10 b11:Bool}(ha:bl aL.natAbs<=500000)(hb:bl aH.natAbs<=500000)(hu:bl bL.natAbs<=500000)(ho:bl bH.natAbs<=500000)(q0:0<=q)(q1:q<=500000)(u0:bL≠0)(o0:bH≠0) :
  J3 (isNeg aL) (dg aL.natAbs) (isNeg aH) (dg aH.natAbs) q (isNeg bL) (dg bL.natAbs) (isNeg bH) (dg bH.natAbs) x9 b10 b11 x12=some [vO.aXB (aGI aL aH bL bH q).1 (aGI aL aH bL bH q).2 q]:=by
 unfold aGI;dsimp only;rw[fH];cases h1:isNeg aL with
 |true =>
  rw[bT,sW,cond_true];cases h2:isNeg aH with
  |true=>rw[bT,cond_true];have j:=bHW (x9:=x12) (b5:=b10) (b6:=b11) ha hb hu ho q0 q1 u0 o0;rw[h1,h2]at j;exact j
  |false=>rw[bF,cond_false];have j:=bHW (x9:=x12) (b5:=b10) (b6:=b11) ha hb hu hu q0 q1 u0 u0;rw[h1,h2]at j;exact j
 |false =>
  rw[bF,sW,cond_false];cases h2:isNeg aH with
  |true=>rw[bT,cond_true];have j:=bHW (x9:=x12) (b5:=b10) (b6:=b11) ha hb ho ho q0 q1 o0 o0;rw[h1,h2]at j;exact j
  |false=>rw[bF,cond_false];have j:=bHW (x9:=x12) (b5:=b10) (b6:=b11) ha hb ho hu q0 q1 o0 u0;rw[h1,h2]at j;exact j
open kO in
theorem spec (s t:bAH) (h:(sp s t).1):aG E f247 aF [(pG (.pair sB (.pair (sI .u32) (.pair sB (.pair (sI .u32) (sN .i64)))))).put s,(pG (.pair sB (.pair (sI .u32) (.pair sB (.pair (sI .u32) (sN .i64)))))).put t]=some (sp s t).2:=by
 obtain⟨⟨k1,k2,k3,k4⟩,⟨b1,b2,b3,b4⟩,⟨q0,q1⟩,t0,t1⟩:=h;refine(start s.1 s.2.1 s.2.2.1 s.2.2.2.1 s.2.2.2.2 t.1 t.2.1 t.2.2.1 t.2.2.2.1 t.2.2.2.2).trans ?_;have e1:(s.1,s.2.1)=nL s:=rfl;have e2:(s.2.2.1,s.2.2.2.1)=nH s:=rfl;have e3:(t.1,t.2.1)=nL t:=rfl;have e4:(t.2.2.1,t.2.2.2.1)=nH t:=rfl;have c1:=k1.cells;have c2:=k2.cells;have c3:=k3.cells;have c4:=k4.cells;have nb:∀{z:Int},bl z.natAbs<=500000->bl (-z).natAbs<=500000:=fun h=>by rw[cGD];exact h
 unfold sp Vu;dsimp only;rw[c3.1];show aC (nL t).1 _ _=_;simp only[aE,e1,e2,e3,e4];cases hn:(nL t).1 with
 |true =>
  rw[bT,gP k2,gP k1,gP k4,gP k3,cond_true];exact bQT (nb b2) (nb b1) (nb b4) (nb b3) q0 q1 (by omega) (by omega)
 |false =>
  rw[bF,cond_false];have r:=bQT (x9:=t.2.2.2.2) (x12:=0) (b10:=false) (b11:=false) b1 b2 b3 b4 q0 q1 t0 t1;rw[c1.1,c1.2,c2.1,c2.2,c3.1,c3.2,c4.1,c4.2]at r;exact r
def aJ:dO:=orc2 (pG (.pair sB (.pair (sI .u32) (.pair sB (.pair (sI .u32) (sN .i64)))))) (pG (.pair sB (.pair (sI .u32) (.pair sB (.pair (sI .u32) (sN .i64)))))) sp
theorem ok:OK 247 aJ:=(eI E aF (aA Jb.ok (aA fX.ok (aA Bv.ok (aA oM.ok aD)))) func247).jZ rfl spec
end gY
end W
namespace M
open Go AI W
theorem aKH(m e:Int):((nI.aAJ m e:Int):Rat)<=(m:Rat)*R.pz e/\(m:Rat)*R.pz e<((nI.aAJ m e:Int):Rat)+1/\(0<=e->((nI.aAJ m e:Int):Rat)=(m:Rat)*R.pz e):=by
 unfold nI.aAJ
 by_cases h:0<=e
 ·rw[if_pos h];obtain⟨k,rfl⟩:=cDO h;have e1:((m*2^k:Int):Rat)=(m:Rat)*R.pz (k:Int):=by
   rw[R.iS,cJA];congr 1
  rw[cCJ,e1];refine⟨cEZ,by grind,fun _=>rfl⟩
 ·rw[if_neg h];obtain⟨k,hk⟩:=cDO (show 0<=-e by omega);rw[hk,cCJ,show e=-(k:Int) by omega,R.vZ];obtain⟨c1,c2⟩:=yG (z:=m) (k:=k);have h2:=R.Ih k;have h3:=R.wI k;generalize ((m/((2^k:Nat):Int):Int):Rat)=d at *;generalize ((2^k:Nat):Rat)=K at *;generalize R.hf k=g at *;have m1:=R.aI (cDU h3) (show 0<=(m:Rat)-d*K by grind);have m2:=Rat.mul_pos h3 (show 0<(d+1)*K-(m:Rat) by grind);have e1:∀v:Rat,g*(v*K)=v:=fun v=>by rw[cKY v K,<-cJP,h2];grind
  have e2:=e1 d;have e3:=e1 (d+1);refine⟨by grind,by grind,fun hh=>absurd hh (by omega)⟩
theorem aKX{a b:Int}(hb:0<b):-(b:Rat)<=2*((a:Rat)-(pZ.Pv a b:Rat)*(b:Rat))/\2*((a:Rat)-(pZ.Pv a b:Rat)*(b:Rat))<=(b:Rat):=by
 have hd:=cHK a b;have h0:=cHL a (show b≠0 by omega);have h1:=cHM a hb;have hc:b*(a/b)=a/b*b:=Int.mul_comm _ _;have h:-b<=2*(a-pZ.Pv a b*b)/\2*(a-pZ.Pv a b*b)<=b:=by
  unfold pZ.Pv;split
  ·rename_i c;rw[Int.add_mul,Int.one_mul];generalize a/b*b=P at *;rcases c with c |c <;> omega
  ·rename_i c;rw[cJV];generalize a/b*b=P at *;omega
 constructor
 ·have:((-b:Int):Rat)<=((2*(a-pZ.Pv a b*b):Int):Rat):=by exact_mod_cast h.1
  rwa [cJG,cJA,cMB,cJA]at this
 ·have:((2*(a-pZ.Pv a b*b):Int):Rat)<=(b:Rat):=by exact_mod_cast h.2
  rwa [cJA,cMB,cJA]at this
theorem aKL{G X K f P p Q y:Rat}(hG:G=Q*(16*P))(P1:1<=P)(Q1:1208925819614629174706176<=Q)(aX:R.ab X<=P)(f0:0<=f)(f1:f<=G*p)(f2:G*p<f+1)(p1:314159/100000<p)(p2:p<314160/100000)
  (n1:-f<=2*(2*(G*X)-K*f)) (n2:2*(2*(G*X)-K*f)<=f) (m1:y*(32*P)<=2*(G*X)-K*f) (m2:2*(G*X)-K*f<(y+1)*(32*P)) :
  R.ab (y-Q*(X-K*(p/2)))<=2/\Q*R.ab (X-K*(p/2))<=Q*(p/4)+1:=by
 have QP:=R.aI (show 0<=Q-1 by grind) (show 0<=P-1 by grind);have G1:256<=G:=by rw[hG];grind
 have Gp:=R.aI (show 0<=G by grind) (show 0<=p-314159/100000 by grind);have bYK:=R.aI (show 0<=G by grind) (show 0<=314160/100000-p by grind);have f3:3*G<=f:=by grind
 have f4:f<=4*G:=by grind
 have k0:=R.aT K;have eX:R.ab (2*(G*X))=2*(G*R.ab X):=by
  rw[R.dV,R.dV,R.bQ (show(0:Rat)<=2 by grind),R.bQ (show 0<=G by grind)]
 have eK:R.ab (K*f)=R.ab K*f:=by rw[R.dV,R.bQ f0]
 have bXZ:R.ab K*f<=2*(G*R.ab X)+f/2:=by
  rw[<-eK,<-eX];have a1:=R.xY (2*(G*X));have a2:=R.mJ (2*(G*X));rw[R.bY];constructor <;> grind
 have g1:=R.aI (show 0<=G by grind) (show 0<=P-R.ab X by grind);have g2:=R.aI k0 (show 0<=f-3*G by grind);have aK:3*R.ab K<=2*P+2:=by
  refine R.bP (q:=G) (by grind) ?_;grind
 have kd:R.ab (K*(G*p-f))<=R.ab K:=by
  rw[R.dV,R.bQ (show 0<=G*p-f by grind)];have:=R.aI k0 (show 0<=1-(G*p-f) by grind);grind
 rw[R.bY]at kd;have e2:2*(G*X)-K*f-K*(G*p-f)=32*P*(Q*(X-K*(p/2))):=by rw[hG];grind
 have P0:0<32*P:=by grind
 refine⟨?_,?_⟩
 ·rw[R.bY];constructor
  ·refine R.bP P0 ?_;have e4:32*P*(y-Q*(X-K*(p/2)))=32*P*y-32*P*(Q*(X-K*(p/2))):=by grind
   rw[e4,<-e2];generalize K*(G*p-f)=Z at *;grind
  ·refine R.bP P0 ?_;have e4:32*P*(y-Q*(X-K*(p/2)))=32*P*y-32*P*(Q*(X-K*(p/2))):=by grind
   rw[e4,<-e2];generalize K*(G*p-f)=Z at *;grind
 ·refine R.bP P0 ?_;have e3:32*P*(Q*R.ab (X-K*(p/2)))=R.ab (32*P*(Q*(X-K*(p/2)))):=by
   rw[R.dV (32*P),R.dV Q,R.bQ (cDU P0),R.bQ (show 0<=Q by grind)]
  rw[e3,<-e2,R.bY];have e4:32*P*(Q*(p/4)+1)=G*p/2+32*P:=by rw[hG];grind
  rw[e4];generalize K*(G*p-f)=Z at *;constructor <;> grind
theorem aWT{q:Int}(h:80<=q):1208925819614629174706176<=R.pz q:=by
 have:=R.cK h;have e:R.pz 80=1208925819614629174706176:=by rw[show(80:Int)=((80:Nat):Int) by rfl,R.iS];norm_cast
 rw[e]at this;exact this
theorem aGK{m e q:Int}(h:Vo m e)(hq:80<=q/\q<=134700):R.pC (R.qz (m,e)) (k7 m e q)/\R.ab ((y7 m e q:Rat)-R.pz q*(R.qz (m,e)-(k7 m e q:Rat)*(R.pi/2)))<=2:=by
 obtain⟨z0,z1,e0,e1⟩:=h;obtain⟨q1,q2⟩:=R.iT;have bm:bl m.natAbs<=53:=eF.2 (by have:(2:Nat)^53=9007199254740992:=rfl;omega);have b0:=mY (n:=m.natAbs) (by omega);have bQP:=aWT hq.1;have Qp:=R.dK q;obtain⟨tl,th⟩:=nY (p:=(m,e)) z0;have ht:bG (m,e)=e+(bl m.natAbs:Nat)-1:=rfl;have tT:t7 m e=(if(bl m.natAbs:Int)+e>0 then(bl m.natAbs:Int)+e else 0)+4:=rfl;have tb:4<=t7 m e/\t7 m e<=1028/\bG (m,e)+1<=t7 m e-4:=by rw[tT];split <;> omega
 have eX:∀a:Int,(m:Rat)*R.pz (e+a)=R.qz (m,e)*R.pz a:=fun a=>by
  unfold R.qz;dsimp only;rw[R.iK];grind
 obtain⟨x1,x2,x3⟩:=aKH m (e+(q+t7 m e));have hx:nI.aAJ m (e+(q+t7 m e))=x7 m e q:=rfl;rw[hx,eX]at x1 x2 x3;obtain⟨w,hw⟩:=cDO (show 0<=q+t7 m e by omega);have Wp:=R.dK (q+t7 m e);have bYB:=aWT (show 80<=q+t7 m e by omega);have ax:R.ab ((x7 m e q:Int):Rat)=(((x7 m e q).natAbs:Nat):Rat):=Lh _;cases hs:aKB m e q with
 |true =>
  have hk:k7 m e q=0:=by unfold k7;rw[hs];rfl
  have hy:y7 m e q=nI.aAJ m (e+q):=by unfold y7;rw[hs];rfl
  have k0:((0:Int):Rat)=0:=by norm_cast
  have er:R.qz (m,e)-((0:Int):Rat)*(R.pi/2)=R.qz (m,e):=by rw[k0];grind
  obtain⟨c1,c2,_⟩:=aKH m (e+q);rw[eX]at c1 c2;unfold aKB at hs;rw[Bool.and_eq_true]at hs;have h3:=of_decide_eq_true hs.2;rw[hw,cCJ]at h3;have aZD:(((x7 m e q).natAbs:Nat):Rat)*4<=R.pz (q+t7 m e)*3:=by
   rw[hw,R.iS];exact_mod_cast h3
  rw[<-ax]at aZD;have a1:=R.xY ((x7 m e q:Int):Rat);have a2:=R.mJ ((x7 m e q:Int):Rat);have aX:R.ab (R.qz (m,e))<=77/100:=by
   rw[R.bY];constructor
   ·refine R.bP Wp ?_;grind
   ·refine R.bP Wp ?_;grind
  rw[hk,hy,er];refine⟨?_,?_⟩
  ·unfold R.pC;rw[er];grind
  ·rw[R.bY];constructor <;> grind
 |false =>
  have aX:1/2<=R.ab (R.qz (m,e)):=by
   unfold aKB at hs
   by_cases c4:t7 m e=4
   ·rw[dqT c4,cBO]at hs;have h3:=of_decide_eq_false hs;rw[hw,cCJ]at h3;have aZD:R.pz (q+t7 m e)*3<=(((x7 m e q).natAbs:Nat):Rat)*4:=by
     rw[hw,R.iS];exact_mod_cast(show((2^w*3:Nat):Int)<=((x7 m e q).natAbs:Int)*4 by omega)
    rw[<-ax]at aZD;have a1:=R.xY (R.qz (m,e));have a2:=R.mJ (R.qz (m,e));have m1:=R.aI (cDU Wp) (show 0<=R.ab (R.qz (m,e))-R.qz (m,e) by grind);have m2:=R.aI (cDU Wp) (show 0<=R.ab (R.qz (m,e))+R.qz (m,e) by grind);have a3:R.ab ((x7 m e q:Int):Rat)<=R.pz (q+t7 m e)*R.ab (R.qz (m,e))+1:=by
     rw[R.bY];constructor <;> grind
    refine R.bP Wp ?_;grind
   ·have:(bl m.natAbs:Int)+e>0:=by rw[tT]at c4;split at c4 <;> omega
    have:=R.cK (show 0<=bG (m,e) by omega);rw[R.fA]at this;grind
  have he:-53<=e:=by
   refine Int.not_lt.1 fun hn=>?_
   have h2:=R.cK (show bG (m,e)+1<=-1 by omega);have h3:=R.oW 0;rw[R.fA,show(0:Int)-1=-1 by rfl]at h3;grind
  have x3:=x3 (by omega);have hk:k7 m e q=pZ.Pv (x7 m e q*2) (R.pF w:Nat):=by unfold k7;rw[hs,hw];rfl
  have hy:y7 m e q=(x7 m e q*2-k7 m e q*(R.pF w:Nat))/((2^(t7 m e+1).toNat:Nat):Int):=by unfold y7;rw[hs,hw];rfl
  obtain⟨f1,f2⟩:=R.Ga (q:=w) (by omega);have F0:=(cN.Cv (g:=w) (by omega)).2;obtain⟨n1,n2⟩:=aKX (a:=x7 m e q*2) (b:=(R.pF w:Nat)) (by omega);rw[<-hk,cJA,cIW,x3]at n1 n2;obtain⟨m1,m2⟩:=yG (z:=x7 m e q*2-k7 m e q*(R.pF w:Nat)) (k:=(t7 m e+1).toNat);rw[<-hy,cMB,cJA,cJA,cIW,x3]at m1 m2;have eP:((2^(t7 m e+1).toNat:Nat):Rat)=32*R.pz (t7 m e-4):=by
   rw[<-R.iS,show(((t7 m e+1).toNat:Nat):Int)=t7 m e-4+((5:Nat):Int) by omega,R.dZ];have:((2^5:Nat):Rat)=32:=by norm_cast
   rw[this];grind
  have eG:R.pz (q+t7 m e)=R.pz q*(16*R.pz (t7 m e-4)):=by
   rw[R.iK,show t7 m e=t7 m e-4+((4:Nat):Int) by omega,R.dZ];have:((2^4:Nat):Rat)=16:=by norm_cast
   rw[this,show t7 m e-4+((4:Nat):Int)-4=t7 m e-4 by omega];grind
  have P1:1<=R.pz (t7 m e-4):=by rw[<-R.fA];exact R.cK (by omega)
  have aP:R.ab (R.qz (m,e))<=R.pz (t7 m e-4):=by
   have:=R.cK tb.2.2;grind
  rw[eP]at m1 m2;have two:((2:Int):Rat)=2:=by norm_cast
  rw[two]at n1 n2 m1 m2;rw[<-R.iS,<-hw]at f1 f2;have bYL:(0:Rat)<=(R.pF w:Rat):=by exact_mod_cast cEN _
  obtain⟨r1,r2⟩:=aKL (G:=R.pz (q+t7 m e)) (X:=R.qz (m,e)) (K:=(k7 m e q:Rat)) (f:=(R.pF w:Rat)) (P:=R.pz (t7 m e-4)) (p:=R.pi) (Q:=R.pz q) (y:=(y7 m e q:Rat)) eG P1 bQP aP bYL f1 f2 q1 q2 (by grind) (by grind) (by grind) (by grind);refine⟨?_,r1⟩;unfold R.pC;refine R.bP Qp ?_;grind
end M
namespace M
open Go AI W
def q7(m e p:Int):Int:=p+80+(if -((bl m.natAbs:Int)+e)>0 then -((bl m.natAbs:Int)+e)else 0)
def aWO(k s c:Int):Int:=if k%4=0 then s else if k%4=1 then c else if k%4=2 then -s else -c
def aWP(k s c:Int):Int:=if k%4=0 then c else if k%4=1 then -s else if k%4=2 then -c else s
def vS(m e q:Int):Int:=aWO (k7 m e q) (Ec (y7 m e q) q.toNat) (Et (y7 m e q) q.toNat)
def vC(m e q:Int):Int:=aWP (k7 m e q) (Ec (y7 m e q) q.toNat) (Et (y7 m e q) q.toNat)
def Jo(fn m e q:Int):Int×Int:=if fn=2 then(vC m e q-8,vC m e q+8)else if fn=3 then gY.Vu (vS m e q-8) (vS m e q+8) (vC m e q-8) (vC m e q+8) q else(vS m e q-8,vS m e q+8)
theorem aDG{a b p:Int}(hp:0<=p)(aSJ:a<=b)(h:(0<(a:Rat)/\((b:Rat)-(a:Rat))*R.pz p<=(a:Rat))\/((b:Rat)<0/\((b:Rat)-(a:Rat))*R.pz p<=-(b:Rat))):kO.Zk a b p=true:=by
 obtain⟨n,rfl⟩:=cDO hp;rw[R.iS]at h;have e:((b:Rat)-(a:Rat))*((2^n:Nat):Rat)=(((b-a)*2^n:Int):Rat):=by
  rw[cJA,cMB];congr 1
 rw[e]at h;have cp:∀z:Int,cZ z 0=if z<0 then -1 else if 0<z then 1 else 0:=fun _=>rfl
 unfold kO.Zk;rw[cCJ,cp,cp];rcases h with ⟨h1,h2⟩ |⟨h1,h2⟩
 ·have a0:0<a:=by exact_mod_cast h1
  have h2:(b-a)*2^n<=a:=Rat.intCast_le_intCast.1 h2;rw[if_neg (show ¬a<0 by omega),if_pos a0,if_neg (show ¬b<0 by omega),if_pos (show 0<b by omega),show((1:Int) !=1)=false from rfl,cond_false,show((1:Int)==0)=false from rfl,cond_false,fN.2 (by omega),cond_false];exact dqT (by omega)
 ·have b0:b<0:=by exact_mod_cast h1
  have h2:(b-a)*2^n<=-b:=by
   refine Rat.intCast_le_intCast.1 ?_;rw[cJG];exact h2
  rw[if_pos (show a<0 by omega),if_pos b0,show((-1:Int) !=-1)=false from rfl,cond_false,show((-1:Int)==0)=false from rfl,cond_false,jT.2 (by omega),cond_true];exact dqT (by omega)
theorem aQV{k s c:Int}{S C d:Rat}(hs:R.ab ((s:Rat)-S)<=d)(hc:R.ab ((c:Rat)-C)<=d):R.ab ((aWO k s c:Rat)-R.rs k S C)<=d/\R.ab ((aWP k s c:Rat)-R.rc k S C)<=d:=by
 have n:∀(z:Int) (Z:Rat),R.ab ((z:Rat)-Z)<=d->R.ab (((-z:Int):Rat) - -Z)<=d:=fun z Z h=>by
  rw[cJG,<-R.iL];have e:-(-(z:Rat) - -Z)=(z:Rat)-Z:=by grind
  rw[e];exact h
 unfold aWO aWP R.rs R.rc;split
 ·exact⟨hs,hc⟩
 ·split
  ·exact⟨hc,n _ _ hs⟩
  ·split
   ·exact⟨n _ _ hs,n _ _ hc⟩
   ·exact⟨n _ _ hc,hs⟩
theorem Uh{a b:Int}(hb:0<b){v:Rat}(hv:v*(b:Rat)=(a:Rat)):((fX.Vw a b:Int):Rat)<=v/\v<((fX.Vw a b:Int):Rat)+1:=by
 have b0:(0:Rat)<(b:Rat):=by exact_mod_cast hb
 unfold fX.Vw;rw[bI];have h1:=Int.ediv_mul_le a (show b≠0 by omega);have h2:=Int.lt_ediv_add_one_mul_self a hb;have aBG:((a/b:Int):Rat)*(b:Rat)<=(a:Rat):=by
  have:((a/b*b:Int):Rat)<=(a:Rat):=Rat.intCast_le_intCast.2 h1;rwa [cJA]at this
 have aVO:(a:Rat)<(((a/b:Int):Rat)+1)*(b:Rat):=by
  have:(a:Rat)<(((a/b+1)*b:Int):Rat):=Rat.intCast_lt_intCast.2 h2;rwa [cJA,cKB]at this
 constructor
 ·refine R.bP b0 ?_;grind
 ·refine R.qU b0 ?_;grind
theorem aFQ{a b:Int}(hb:0<b){v:Rat}(hv:v*(b:Rat)=(a:Rat)):v<=((oM.Dq a b:Int):Rat)/\((oM.Dq a b:Int):Rat)<v+1:=by
 have:=Uh (a:=-a) hb (v:=-v) (by rw[cJG];grind);unfold oM.Dq;rw[cJG];constructor <;> grind
theorem aNV{a q:Int}(hq:0<=q):((a*2^q.toNat:Int):Rat)=(a:Rat)*R.pz q:=by
 obtain⟨n,rfl⟩:=cDO hq;rw[R.iS,cJA,cCJ];congr 1
theorem aKJ{s c q:Int}{S C V ρ:Rat}(hq:0<=q)(hs:R.ab ((s:Rat)-R.pz q*S)<=6)(hc:R.ab ((c:Rat)-R.pz q*C)<=6)(S0:S≠0)(C0:0<C)(C1:C<=1)(hV:V*C=S)(r0:0<=ρ)(r1:ρ<=1/64)(wS:16<=R.pz q*(ρ*R.ab S))(wC:16<=R.pz q*(ρ*C)) :
  ((gY.aGI (s-8) (s+8) (c-8) (c+8) q).1:Rat)+2<=R.pz q*V/\R.pz q*V+2<=((gY.aGI (s-8) (s+8) (c-8) (c+8) q).2:Rat) /\
  ((gY.aGI (s-8) (s+8) (c-8) (c+8) q).2:Rat)-((gY.aGI (s-8) (s+8) (c-8) (c+8) q).1:Rat)<=5*ρ*(R.pz q*R.ab V)+2:=by
 have Q:=R.dK q;have G:=R.dK (-q);have gi:=R.Ta q;have eight:((8:Int):Rat)=8:=by norm_cast
 rw[R.bY]at hs hc;obtain⟨g,hg⟩:∃g,g=R.pz (-q):=⟨_,rfl⟩;rw[<-hg]at G gi;obtain⟨Z,hZ⟩:∃Z,Z=R.pz q:=⟨_,rfl⟩;rw[<-hZ]at hs hc wS wC Q gi ⊢;have gZ:∀v:Rat,g*(Z*v)=v:=fun v=>by rw[<-cJP,cKY g,gi];grind
 have sc:∀(u v:Rat),u<=v->g*u<=g*v:=fun u v h=>by have:=R.aI (cDU G) (show 0<=v-u by grind);grind
 have c1:=sc _ _ hc.1;have c2:=sc _ _ hc.2;have s1:=sc _ _ hs.1;have s2:=sc _ _ hs.2;have e1:=gZ C;have e2:=gZ S;have w1:=sc _ _ wC;have w2:=sc _ _ wS;rw[gZ]at w1 w2;have cS:(((s-8:Int)):Rat)=(s:Rat)-8/\(((s+8:Int)):Rat)=(s:Rat)+8/\(((c-8:Int)):Rat)=(c:Rat)-8/\(((c+8:Int)):Rat)=(c:Rat)+8:=by
  rw[cMB,cKB,cMB,cKB,eight];exact⟨rfl,rfl,rfl,rfl⟩
 obtain⟨x1,x2,x3,x4⟩:=cS;have rC:=R.aI (cDU C0) (show 0<=1/64-ρ by grind);have u0:0<g*((c:Rat)-8):=by grind
 have v0:0<g*((c:Rat)+8):=by grind
 have pos:∀w:Rat,0<g*w->0<w:=fun w h=>by
  refine Rat.not_le.1 fun hn=>?_
  have:=R.aI (cDU G) (show 0<=-w by grind);grind
 have cl:0<c-8:=by
  have:=pos _ u0;rw[<-x3]at this;exact_mod_cast this
 have ch:0<c+8:=by omega
 have Rq:∀a b:Rat,b≠0->a/b*b=a:=fun a b h=>by grind
 have gne:g≠0:=by grind
 have aFV:∀(a b:Int) (x:Rat),x*(g*(b:Rat))=g*(a:Rat)->(Z*x)*(b:Rat)=((a*2^q.toNat:Int):Rat):=by
  intro a b x h;rw[aNV hq,<-hZ];have:x*(b:Rat)=(a:Rat):=by
   have h2:g*(x*(b:Rat))=g*(a:Rat):=by rw[<-h];grind
   exact cKJ (R.bP G (by rw[h2];exact cEZ)) (R.bP G (by rw[h2];exact cEZ))
  grind
 unfold gY.aGI
 by_cases hS:0<S
 ·rw[R.bQ (cDU hS)]at w2;have rS:=R.aI (cDU hS) (show 0<=1/64-ρ by grind);have sl:0<s-8:=by
   have:=pos ((s:Rat)-8) (by grind);rw[<-x1]at this;exact_mod_cast this
  rw[fN.2 (show 0<=s-8 by omega),fN.2 (show 0<=s+8 by omega),cond_false,cond_false];obtain⟨d1,d2,d3,d4,V0,q0⟩:=Gq (a:=g*((s:Rat)-8)) (b:=g*((s:Rat)+8)) (u:=g*((c:Rat)-8)) (v:=g*((c:Rat)+8)) (S:=S) (C:=C) (V:=V) (ρ:=ρ) (m:=2*g) (q1:=g*((s:Rat)-8)/(g*((c:Rat)+8))) (q2:=g*((s:Rat)+8)/(g*((c:Rat)-8))) (by grind) (by grind) (by grind) (by grind) (by grind) (by grind) (by grind) hS C0 C1 r0 r1 hV (Rq _ _ (by grind)) (Rq _ _ (by grind));have k1:=Rq (g*((s:Rat)-8)) (g*((c:Rat)+8)) (by grind);have k2:=Rq (g*((s:Rat)+8)) (g*((c:Rat)-8)) (by grind);generalize g*((s:Rat)-8)/(g*((c:Rat)+8))=y1 at *;generalize g*((s:Rat)+8)/(g*((c:Rat)-8))=y2 at *;rw[<-x1,<-x4]at k1;rw[<-x2,<-x3]at k2;obtain⟨f1,f2⟩:=Uh ch (aFV _ _ _ k1);obtain⟨f3,f4⟩:=aFQ cl (aFV _ _ _ k2);have z1:=R.aI (cDU Q) (show 0<=V-2*g-y1 by grind);have z2:=R.aI (cDU Q) (show 0<=y2-(V+2*g) by grind);have z3:=R.aI (cDU Q) (show 0<=V+3*ρ*V-y2 by grind);have z4:=R.aI (cDU Q) (show 0<=y1-(V-2*ρ*V) by grind);rw[R.bQ (cDU V0)];dsimp only;refine⟨by grind,by grind,by grind⟩
 ·have bFA:0 < -S:=by grind
  have eS:R.ab S=-S:=by unfold R.ab;rw[if_neg (by grind)]
  rw[eS]at w2;have rS:=R.aI (cDU bFA) (show 0<=1/64-ρ by grind);have sh:s+8<0:=by
   have h1:0 < -((s:Rat)+8):=pos _ (by grind);have h2:(((s+8:Int)):Rat)<0:=by rw[x2];grind
   exact_mod_cast h2
  rw[jT.2 (show s-8<0 by omega),jT.2 sh,cond_true,cond_true];obtain⟨d1,d2,d3,d4,V0,q0⟩:=Gq (a:=-(g*((s:Rat)+8))) (b:=-(g*((s:Rat)-8))) (u:=g*((c:Rat)-8)) (v:=g*((c:Rat)+8)) (S:=-S) (C:=C) (V:=-V) (ρ:=ρ) (m:=2*g) (q1:=-(g*((s:Rat)+8)/(g*((c:Rat)+8)))) (q2:=-(g*((s:Rat)-8)/(g*((c:Rat)-8)))) (by grind) (by grind) (by grind) (by grind) (by grind) (by grind) (by grind) bFA C0 C1 r0 r1 (by grind) (by have:=Rq (g*((s:Rat)+8)) (g*((c:Rat)+8)) (by grind);grind) (by have:=Rq (g*((s:Rat)-8)) (g*((c:Rat)-8)) (by grind);grind);have k1:=Rq (g*((s:Rat)-8)) (g*((c:Rat)-8)) (by grind);have k2:=Rq (g*((s:Rat)+8)) (g*((c:Rat)+8)) (by grind);generalize g*((s:Rat)-8)/(g*((c:Rat)-8))=y1 at *;generalize g*((s:Rat)+8)/(g*((c:Rat)+8))=y2 at *;rw[<-x1,<-x3]at k1;rw[<-x2,<-x4]at k2;obtain⟨f1,f2⟩:=Uh cl (aFV _ _ _ k1);obtain⟨f3,f4⟩:=aFQ ch (aFV _ _ _ k2);have z1:=R.aI (cDU Q) (show 0<=V-2*g-y1 by grind);have z2:=R.aI (cDU Q) (show 0<=y2-(V+2*g) by grind);have z3:=R.aI (cDU Q) (show 0<=V-2*ρ*V-y2 by grind);have z4:=R.aI (cDU Q) (show 0<=y1-(V+3*ρ*V) by grind);have aV:R.ab V=-V:=by rw[<-R.iL];exact R.bQ (cDU V0)
  rw[aV];dsimp only;refine⟨by grind,by grind,by grind⟩
end M
namespace M
open Go AI W
structure bMV(fn m e p q:Int):Prop where
 y0:y7 m e q≠0
 yb:(y7 m e q).natAbs<=2^q.toNat
 Pw:R.pC (R.qz (m,e)) (k7 m e q)
 sb:(vS m e q).natAbs<=2^(q.toNat+1)
 cb:(vC m e q).natAbs<=2^(q.toNat+1)
 cl:vC m e q-8≠0
 ch:vC m e q+8≠0
 bAZ:kO.Zk (vC m e q-8) (vC m e q+8) p=true
 th:kO.Zk (Jo fn m e q).1 (Jo fn m e q).2 p=true
 lo:((Jo fn m e q).1:Rat)+1<=R.pz q*R.fv fn (R.qz (m,e)) (k7 m e q)
 hi:R.pz q*R.fv fn (R.qz (m,e)) (k7 m e q)+1<=((Jo fn m e q).2:Rat)
 ne:R.fv fn (R.qz (m,e)) (k7 m e q)≠0
 wd:(((Jo fn m e q).2:Rat)-((Jo fn m e q).1:Rat))*R.pz p<=R.pz q*R.ab (R.fv fn (R.qz (m,e)) (k7 m e q))
theorem aSZ{m e:Int}(h:Vo m e):R.Fit (R.qz (m,e)):=by
 have:=(aNH h).fit;rwa [qB]at this
theorem Wg{v p:Int}{w:Rat}(hp:1<=p)(h:R.ab ((v:Rat)-w)<=6)(hw:R.pz (p+15)<=R.ab w):kO.Zk (v-8) (v+8) p=true/\v-8≠0/\v+8≠0:=by
 have pp:=R.dK p;have p2:2<=R.pz p:=by rw[<-R.Eh];exact R.cK hp
 have bFK:R.pz (p+15)=32768*R.pz p:=by
  rw[show p+15=p+((15:Nat):Int) by omega,R.dZ];have:((2^15:Nat):Rat)=32768:=by norm_cast
  rw[this];grind
 have eight:((8:Int):Rat)=8:=by norm_cast
 have x1:((v-8:Int):Rat)=(v:Rat)-8:=by rw[cMB,eight]
 have x2:((v+8:Int):Rat)=(v:Rat)+8:=by rw[cKB,eight]
 have a1:=R.xY ((v:Rat)-w);have a2:=R.mJ ((v:Rat)-w)
 by_cases c:0<=w
 ·rw[R.bQ c]at hw;have l:0<((v-8:Int):Rat):=by rw[x1];grind
  have li:0<v-8:=by exact_mod_cast l
  refine⟨aDG (by omega) (by omega) (Or.inl ⟨l,?_⟩),by omega,by omega⟩;rw[x1,x2];grind
 ·have e:R.ab w=-w:=by unfold R.ab;rw[if_neg c]
  rw[e]at hw;have l:((v+8:Int):Rat)<0:=by rw[x2];grind
  have li:v+8<0:=by exact_mod_cast l
  refine⟨aDG (by omega) (by omega) (Or.inr ⟨l,?_⟩),by omega,by omega⟩;rw[x1,x2];grind
theorem Oe{v:Int}{n:Nat}(h:R.ab (v:Rat)<=R.pz n):v.natAbs<=2^n:=by
 rw[Lh,R.iS]at h;exact_mod_cast h
theorem Sz{fn m e p q:Int}(h:Vo m e)(hp:1<=p)(hq:q=q7 m e p)(aXY:q<=134700)(hf:1<=fn/\fn<=3):bMV fn m e p q:=by
 have bIF:80<=q/\p+80<=q:=by rw[hq];unfold q7;split <;> omega
 obtain⟨nr,yn⟩:=aGK h ⟨bIF.1,aXY⟩;have rn:=R.Ge nr;have fit:=aSZ h;obtain⟨tl,th⟩:=nY (p:=(m,e)) h.z0;have Qp:=R.dK q;have bQP:=aWT bIF.1;obtain⟨r,hr⟩:∃r,r=R.qz (m,e)-(k7 m e q:Rat)*(R.pi/2):=⟨_,rfl⟩;have bBX:R.Sf (R.qz (m,e)) (k7 m e q)=R.rs (k7 m e q) (R.sn r) (R.cs r):=by rw[hr];rfl
 have bBY:R.Cf (R.qz (m,e)) (k7 m e q)=R.rc (k7 m e q) (R.sn r) (R.cs r):=by rw[hr];rfl
 rw[<-hr]at yn rn;have low:R.pz (p+16)<=R.pz q*R.ab r:=by
  by_cases c:R.ab (R.qz (m,e))<=3/4
  ·have k0:=R.Sq c nr;have e0:((0:Int):Rat)=0:=by norm_cast
   have er:r=R.qz (m,e):=by rw[hr,k0,e0];grind
   have t:bG (m,e)=e+(bl m.natAbs:Nat)-1:=rfl;have h1:R.pz (p+16)<=R.pz q*R.pz (bG (m,e)):=by
    rw[<-R.iK];refine R.cK ?_;rw[hq,t];unfold q7;split <;> omega
   have:=R.aI (cDU Qp) (show 0<=R.ab (R.qz (m,e))-R.pz (bG (m,e)) by grind);rw[er];grind
  ·have num:R.bCA (R.qz (m,e)):=by
    rcases fit with f |f
    ·exact f
    ·exact absurd f c
   have v:=R.aKM num (k7 m e q);rw[<-hr]at v;have h1:R.pz (p+16)<=R.pz q*R.pz (-63):=by
    rw[<-R.iK];exact R.cK (by omega)
   have bFJ:=R.gN 0 (n:=63) (c:=9223372036854775808) (by norm_cast);rw[R.fA,show(0:Int)-((63:Nat):Int)=-63 by rfl]at bFJ;have:=R.aI (cDU Qp) (show 0<=R.ab r-R.pz (-63) by grind);grind
 have P16:65536<=R.pz (p+16):=by
  have:=R.cK (show(16:Int)<=p+16 by omega);have e:R.pz 16=65536:=by rw[show(16:Int)=((16:Nat):Int) by rfl,R.iS];norm_cast
  rw[e]at this;exact this
 have e16:R.pz (p+16)=2*R.pz (p+15):=by rw[<-R.iM];congr 1;omega
 have ae:R.pz q*R.ab r=R.ab (R.pz q*r):=by rw[R.dV,R.bQ (cDU Qp)]
 have y1:=R.xM (R.pz q*r) ((y7 m e q:Rat)-R.pz q*r);have y2:=R.xM (y7 m e q:Rat) (-((y7 m e q:Rat)-R.pz q*r));rw[show R.pz q*r+((y7 m e q:Rat)-R.pz q*r)=(y7 m e q:Rat) by grind,<-ae]at y1;rw[show(y7 m e q:Rat)+-((y7 m e q:Rat)-R.pz q*r)=R.pz q*r by grind,<-ae,R.iL]at y2;have yq:R.ab (y7 m e q:Rat)<=R.pz q:=by
  have:=R.aI (cDU Qp) (show 0<=79/100-R.ab r by grind);grind
 obtain⟨n,hn⟩:=cDO (show 0<=q by omega);have yb:(y7 m e q).natAbs<=2^q.toNat:=by
  rw[hn,cCJ];rw[hn]at yq;exact Oe yq
 have y0:y7 m e q≠0:=by
  intro hz;have e0:((0:Int):Rat)=0:=by norm_cast
  have:R.ab (y7 m e q:Rat)=0:=by rw[hz,e0,R.bQ cEZ]
  grind
 obtain⟨Y,hY⟩:∃Y:Rat,Y*R.pz q=(y7 m e q:Rat):=⟨(y7 m e q:Rat)/R.pz q,by grind⟩;have nn:(q.toNat:Int)=q:=by omega
 obtain⟨s1,s2⟩:=aQT (y:=y7 m e q) (q:=q.toNat) yb (by omega) (Y:=Y) (by rw[nn];exact hY);rw[nn]at s1 s2;have aY:R.ab Y<=1:=by
  refine R.bP Qp ?_;have:R.pz q*R.ab Y=R.ab (y7 m e q:Rat):=by rw[<-hY,R.dV,R.bQ (cDU Qp)];grind
  grind
 have dYr:R.pz q*R.ab (Y-r)<=2:=by
  have:R.pz q*R.ab (Y-r)=R.ab ((y7 m e q:Rat)-R.pz q*r):=by rw[<-hY,show Y*R.pz q-R.pz q*r=R.pz q*(Y-r) by grind,R.dV,R.bQ (cDU Qp)]
  rw[this];exact yn
 have l1:=R.Sp (x:=r) (y:=Y) (by grind) aY;have l2:=R.aBR (x:=r) (y:=Y) (by grind) aY;have ep:R.pz q*R.vR<=1/4:=by
  have h1:=aMW (n:=140000) (by omega);have h2:=R.aI (cDU Qp) (show 0<=R.pz (-((140000:Nat):Int))-R.vR by grind);have h3:R.pz q*R.pz (-((140000:Nat):Int))<=R.pz (-2):=by rw[<-R.iK];exact R.cK (by omega)
  have h4:=R.gN 0 (n:=2) (c:=4) (by norm_cast);rw[R.fA,show(0:Int)-((2:Nat):Int)=-2 by rfl]at h4;grind
 have z1:=R.aI (cDU Qp) (show 0<=2*R.ab (Y-r)-R.ab (R.sn Y-R.sn r) by grind);have z2:=R.aI (cDU Qp) (show 0<=R.ab (Y-r)+2*R.vR-R.ab (R.cs Y-R.cs r) by grind);have sS:R.ab ((Ec (y7 m e q) q.toNat:Rat)-R.pz q*R.sn r)<=6:=by
  have a:=R.xM ((Ec (y7 m e q) q.toNat:Rat)-R.pz q*R.sn Y) (R.pz q*(R.sn Y-R.sn r));rw[R.dV,R.bQ (cDU Qp),show(Ec (y7 m e q) q.toNat:Rat)-R.pz q*R.sn Y+R.pz q*(R.sn Y-R.sn r)=(Ec (y7 m e q) q.toNat:Rat)-R.pz q*R.sn r by grind]at a;grind
 have sC:R.ab ((Et (y7 m e q) q.toNat:Rat)-R.pz q*R.cs r)<=6:=by
  have a:=R.xM ((Et (y7 m e q) q.toNat:Rat)-R.pz q*R.cs Y) (R.pz q*(R.cs Y-R.cs r));rw[R.dV,R.bQ (cDU Qp),show(Et (y7 m e q) q.toNat:Rat)-R.pz q*R.cs Y+R.pz q*(R.cs Y-R.cs r)=(Et (y7 m e q) q.toNat:Rat)-R.pz q*R.cs r by grind]at a;grind
 obtain⟨t1,t2⟩:=aQV (k:=k7 m e q) sS sC;have bNS:∀(k:Int) (a b c:Rat),R.rs k (c*a) (c*b)=c*R.rs k a b/\R.rc k (c*a) (c*b)=c*R.rc k a b:=by
  intro k a b c;unfold R.rs R.rc;split
  ·exact⟨rfl,rfl⟩
  ·split
   ·exact⟨rfl,by grind⟩
   ·split
    ·exact⟨by grind,by grind⟩
    ·exact⟨by grind,rfl⟩
 rw[(bNS _ _ _ _).1,<-bBX]at t1;rw[(bNS _ _ _ _).2,<-bBY]at t2;have bXA:aWO (k7 m e q) (Ec (y7 m e q) q.toNat) (Et (y7 m e q) q.toNat)=vS m e q:=rfl;have bXB:aWP (k7 m e q) (Ec (y7 m e q) q.toNat) (Et (y7 m e q) q.toNat)=vC m e q:=rfl;rw[bXA]at t1;rw[bXB]at t2;obtain⟨c1,c2⟩:=R.Yo (r:=r) (by grind);have sn1:R.pz (p+15)<=R.pz q*R.ab (R.sn r)/\R.ab (R.sn r)<=1:=by
  rw[<-R.aAF (by grind)];obtain⟨a,b⟩:=R.aDO (R.aT r) (by grind);have:=R.aI (cDU Qp) (show 0<=R.sn (R.ab r)-4/5*R.ab r by grind);constructor <;> grind
 have bQE:R.pz (p+15)<=R.pz q*R.ab (R.cs r)/\R.ab (R.cs r)<=1:=by
  rw[R.bQ (show 0<=R.cs r by grind)];have h1:=R.cK (show p+16<=q by omega);have:=R.aI (cDU Qp) (show 0<=R.cs r-17/25 by grind);constructor <;> grind
 have fS:R.pz (p+15)<=R.pz q*R.ab (R.Sf (R.qz (m,e)) (k7 m e q))/\R.ab (R.Sf (R.qz (m,e)) (k7 m e q))<=1:=by
  rw[bBX,aKK];split <;> assumption
 have fC:R.pz (p+15)<=R.pz q*R.ab (R.Cf (R.qz (m,e)) (k7 m e q))/\R.ab (R.Cf (R.qz (m,e)) (k7 m e q))<=1:=by
  rw[bBY,aKN];split <;> assumption
 have size:∀(v:Int) (V:Rat),R.ab ((v:Rat)-R.pz q*V)<=6->R.ab V<=1->v.natAbs<=2^(q.toNat+1):=by
  intro v V h1 h2;refine Oe ?_;rw[show((q.toNat+1:Nat):Int)=q+1 by omega,R.iM];have a:=R.xM ((v:Rat)-R.pz q*V) (R.pz q*V);rw[show(v:Rat)-R.pz q*V+R.pz q*V=(v:Rat) by grind,R.dV,R.bQ (cDU Qp)]at a;have:=R.aI (cDU Qp) (show 0<=1-R.ab V by grind);grind
 have bQM:∀V:Rat,R.ab (R.pz q*V)=R.pz q*R.ab V:=fun V=>by rw[R.dV,R.bQ (cDU Qp)]
 obtain⟨bAZ,cl,ch⟩:=Wg (v:=vC m e q) hp t2 (by rw[bQM];exact fC.1);obtain⟨aUB,_,_⟩:=Wg (v:=vS m e q) hp t1 (by rw[bQM];exact fS.1);have ppos:=R.dK (p+15);have Mr:∀V:Rat,R.pz (p+15)<=R.pz q*R.ab V->V≠0:=fun V h hz=>by rw[hz,R.bQ cEZ]at h;grind
 have S0:=Mr _ fS.1;have C0:=Mr _ fC.1;have pp:=R.dK p;have bFK:R.pz (p+15)=32768*R.pz p:=by
  rw[show p+15=p+((15:Nat):Int) by omega,R.dZ];have:((2^15:Nat):Rat)=32768:=by norm_cast
  rw[this];grind
 have p2:2<=R.pz p:=by rw[<-R.Eh];exact R.cK hp
 have eight:((8:Int):Rat)=8:=by norm_cast
 have bFH:∀(v:Int) (V:Rat),R.ab ((v:Rat)-R.pz q*V)<=6->R.pz (p+15)<=R.pz q*R.ab V->(((v-8:Int):Rat)+1<=R.pz q*V/\R.pz q*V+1<=((v+8:Int):Rat)/\(((v+8:Int):Rat)-((v-8:Int):Rat))*R.pz p<=R.pz q*R.ab V):=by
  intro v V h1 h2;rw[R.bY]at h1;rw[cMB,cKB,eight];refine⟨by grind,by grind,by grind⟩
 have h3:fn=1\/fn=2\/fn=3:=by omega
 rcases h3 with rfl |rfl |rfl
 ·obtain⟨a1,a2,a3⟩:=bFH _ _ t1 fS.1;exact⟨y0,yb,nr,size _ _ t1 fS.2,size _ _ t2 fC.2,cl,ch,bAZ,aUB,a1,a2,S0,a3⟩
 ·obtain⟨a1,a2,a3⟩:=bFH _ _ t2 fC.1;exact⟨y0,yb,nr,size _ _ t1 fS.2,size _ _ t2 fC.2,cl,ch,bAZ,bAZ,a1,a2,C0,a3⟩
 ·
  have eV:R.fv 3 (R.qz (m,e)) (k7 m e q)=R.Sf (R.qz (m,e)) (k7 m e q)/R.Cf (R.qz (m,e)) (k7 m e q):=rfl;have eE:Jo 3 m e q=gY.Vu (vS m e q-8) (vS m e q+8) (vC m e q-8) (vC m e q+8) q:=rfl;obtain⟨S,hS⟩:∃S,S=R.Sf (R.qz (m,e)) (k7 m e q):=⟨_,rfl⟩;obtain⟨C,hC⟩:∃C,C=R.Cf (R.qz (m,e)) (k7 m e q):=⟨_,rfl⟩;rw[<-hS,<-hC]at eV;rw[<-hS]at S0 fS t1;rw[<-hC]at C0 fC t2;have hV:S/C*C=S:=by grind
  have r0:=R.dK (-p-11);have r11:R.pz (-p-11)*R.pz (p+15)=16:=by
   rw[<-R.iK,show -p-11+(p+15)=((4:Nat):Int) by omega,R.iS];norm_cast
  have r1:R.pz (-p-11)<=1/64:=by
   have h1:=R.cK (show -p-11<=-6 by omega);have h4:=R.gN 0 (n:=6) (c:=64) (by norm_cast);rw[R.fA,show(0:Int)-((6:Nat):Int)=-6 by rfl]at h4;grind
  have wd:∀V:Rat,R.pz (p+15)<=R.pz q*R.ab V->16<=R.pz q*(R.pz (-p-11)*R.ab V):=by
   intro V h;have:=R.aI (cDU r0) (show 0<=R.pz q*R.ab V-R.pz (p+15) by grind);grind
  have main:((gY.Vu (vS m e q-8) (vS m e q+8) (vC m e q-8) (vC m e q+8) q).1:Rat)+2<=R.pz q*(S/C)/\R.pz q*(S/C)+2<=((gY.Vu (vS m e q-8) (vS m e q+8) (vC m e q-8) (vC m e q+8) q).2:Rat) /\
    ((gY.Vu (vS m e q-8) (vS m e q+8) (vC m e q-8) (vC m e q+8) q).2:Rat)-((gY.Vu (vS m e q-8) (vS m e q+8) (vC m e q-8) (vC m e q+8) q).1:Rat)<=5*R.pz (-p-11)*(R.pz q*R.ab (S/C))+2:=by
   have bIB:=t2;have x1:((vC m e q-8:Int):Rat)=(vC m e q:Rat)-8:=by rw[cMB,eight]
   rw[R.bY]at bIB;unfold gY.Vu
   by_cases c0:0<C
   ·have bFG:=fC;rw[R.bQ (cDU c0)]at bFG;have:(0:Rat)<((vC m e q-8:Int):Rat):=by rw[x1];grind
    have:0<vC m e q-8:=by exact_mod_cast this
    rw[fN.2 (show 0<=vC m e q-8 by omega),cond_false];have w2:=wd _ fC.1;rw[R.bQ (cDU c0)]at w2;exact aKJ (by omega) t1 t2 S0 c0 bFG.2 hV (cDU r0) r1 (wd _ fS.1) w2
   ·have bFG:=fC;have eC:R.ab C=-C:=by unfold R.ab;rw[if_neg (by grind)]
    rw[eC]at bFG;have:((vC m e q-8:Int):Rat)<0:=by rw[x1];grind
    have:vC m e q-8<0:=by exact_mod_cast this
    rw[jT.2 this,cond_true];have w2:=wd _ fC.1;rw[eC]at w2;have ng:∀(v:Int) (V:Rat),R.ab ((v:Rat)-R.pz q*V)<=6->R.ab (((-v:Int):Rat)-R.pz q*-V)<=6:=fun v V h=>by
     rw[cJG,<-R.iL,show -(-(v:Rat)-R.pz q*-V)=(v:Rat)-R.pz q*V by grind];exact h
    have w1:=wd _ fS.1;rw[<-R.iL S]at w1;have:=aKJ (s:=-vS m e q) (c:=-vC m e q) (S:=-S) (C:=-C) (V:=S/C) (q:=q) (by omega) (ng _ _ t1) (ng _ _ t2) (by grind) (by grind) bFG.2 (by grind) (cDU r0) r1 w1 w2;rw[show -(vS m e q+8)=-vS m e q-8 by omega,show -(vS m e q-8)=-vS m e q+8 by omega,show -(vC m e q+8)=-vC m e q-8 by omega,show -(vC m e q-8)=-vC m e q+8 by omega];exact this
  obtain⟨a1,a2,a3⟩:=main;rw[<-eE]at a1 a2 a3;have aV:R.ab (S/C)*R.ab C=R.ab S:=by rw[<-R.dV,hV]
  have V0:0<=R.ab (S/C):=R.aT _;have fV:R.pz (p+15)<=R.pz q*R.ab (S/C):=by
   have h1:=R.aI V0 (show 0<=1-R.ab C by grind);have:=R.aI (cDU Qp) (show 0<=R.ab (S/C)-R.ab S by grind);grind
  have VN:S/C≠0:=Mr _ fV;have wide:(((Jo 3 m e q).2:Rat)-((Jo 3 m e q).1:Rat))*R.pz p<=R.pz q*R.ab (S/C)/128:=by
   have h1:=R.aI (cDU pp) (show 0<=5*R.pz (-p-11)*(R.pz q*R.ab (S/C))+2-(((Jo 3 m e q).2:Rat)-((Jo 3 m e q).1:Rat)) by grind);have h2:R.pz p*R.pz (-p-11)=1/2048:=by
    have:R.pz p*R.pz (-p-11)*2048=1:=by
     rw[<-R.iK,show p+(-p-11)=-((11:Nat):Int) by omega,R.vZ];have:=R.Ih 11;rw[show((2^11:Nat):Rat)=2048 by norm_cast]at this;exact this
    grind
   have h3:R.pz p*(5*R.pz (-p-11)*(R.pz q*R.ab (S/C))+2)=5*(R.pz p*R.pz (-p-11))*(R.pz q*R.ab (S/C))+2*R.pz p:=by grind
   rw[h2]at h3;grind
  have ord:(Jo 3 m e q).1<=(Jo 3 m e q).2:=by
   have:((Jo 3 m e q).1:Rat)<=((Jo 3 m e q).2:Rat):=by grind
   exact_mod_cast this
  refine⟨y0,yb,nr,size _ _ t1 fS.2,size _ _ t2 fC.2,cl,ch,bAZ,aDG (by omega) ord ?_,by rw[eV];grind,by rw[eV];grind,by rw[eV];exact VN,by rw[eV];grind⟩;have pp1:=R.aI (show 0<=((Jo 3 m e q).2:Rat)-((Jo 3 m e q).1:Rat) by grind) (show 0<=R.pz p-1 by grind)
  by_cases c:0<S/C
  ·left;rw[R.bQ (cDU c)]at wide fV;constructor <;> grind
  ·right;have eN:R.ab (S/C)=-(S/C):=by unfold R.ab;rw[if_neg (by grind)]
   rw[eN]at wide fV;constructor <;> grind
end M
namespace W
open Go AI M
namespace bMW
def E:=mE [] 12 [] [] []
def aF:=bd f239
theorem aU:Nk E aF:=nk
theorem start a:aG E f239 aF [D.s (sc (int i64 a))]=letI B:=int i64 0;letI A:=int u64 0;aC (a==32) (some [D.agg [sc (int u64 2147483648),sc (int i64 24),sc (int i64 (-149:Int)),sc (int i64 104),sc (int u64 2139095040),sc (int u64 2143289345)],D.s (sc (bool true))]) (aC (a==64) (some [D.agg [sc (int u64 9223372036854775808),sc (int i64 53),sc (int i64 (-1074:Int)),sc (int i64 971),sc (int u64 9218868437227405312),sc (int u64 9221120237041090561)],D.s (sc (bool true))]) (some [D.agg [sc A,sc B,sc B,sc B,sc A,sc A],D.s (sc (bool false))])):=eJ aU
def fS(f:Int):Int:=if f=32 then 2147483648 else if f=64 then 9223372036854775808 else 0
def fP(f:Int):Int:=if f=32 then 24 else if f=64 then 53 else 0
def fE(f:Int):Int:=if f=32 then -149 else if f=64 then -1074 else 0
def fG(f:Int):Int:=if f=32 then 104 else if f=64 then 971 else 0
def fI(f:Int):Int:=if f=32 then 2139095040 else if f=64 then 9218868437227405312 else 0
def fQ(f:Int):Int:=if f=32 then 2143289345 else if f=64 then 9221120237041090561 else 0
def sp(f:Int):Prop×List D:=(True,[.agg [.sc (.int .u64 (fS f)),.sc (.int .i64 (fP f)),.sc (.int .i64 (fE f)),.sc (.int .i64 (fG f)),.sc (.int .u64 (fI f)),.sc (.int .u64 (fQ f))],.s (.sc (.bool (f==32||f==64)))])
theorem spec:iH E f239 aF (pN .i64) sp:=by
 intro f _;refine(start f).trans ?_
 by_cases h1:f=32
 ·subst h1;rfl
 ·by_cases h2:f=64
  ·subst h2;rfl
  ·rw[cP h1,cP h2];simp[sp,fS,fP,fE,fG,fI,fQ,h1,h2]
def aJ:dO:=orc1 (pN .i64) sp
theorem ok:OK 239 aJ:=(eI E aF aD func239).oV rfl spec
end bMW
namespace bAY
def E:=mE [] 14 [] [] []
def aF:=bd f240
theorem aU:Nk E aF:=nk
theorem start a c d e f g b:aG E f240 aF [D.agg [sc (int u64 a),sc (int i64 c),sc (int i64 d),sc (int i64 e),sc (int u64 f),sc (int u64 g)],D.s (sc (int u64 b))]=if a=0 then none else some [D.s (sc (bool (decide (a<=b)))),D.s (sc (int u64 (b.tmod a)))]:=eJ aU
def sp(k:K6)(b:Int):Prop×List D:=(bGJ k/\0<=b,[.s (.sc (.bool (decide (k.1<=b)))),.s (.sc (.int .u64 (b%k.1)))])
theorem spec:fF E f240 aF (pG (.pair (sN .u64) (.pair (sN .i64) (.pair (sN .i64) (.pair (sN .i64) (.pair (sN .u64) (sN .u64))))))) (pN .u64) sp:=by
 intro k b h;refine(start k.1 k.2.1 k.2.2.1 k.2.2.2.1 k.2.2.2.2.1 k.2.2.2.2.2 b).trans ?_;obtain⟨hk,hb⟩:=h;rw[if_neg (by rcases hk with rfl |rfl <;> simp[kf]),cGA hb];rfl
def aJ:dO:=orc2 (pG (.pair (sN .u64) (.pair (sN .i64) (.pair (sN .i64) (.pair (sN .i64) (.pair (sN .u64) (sN .u64))))))) (pN .u64) sp
theorem ok:OK 240 aJ:=(eI E aF aD func240).jZ rfl spec
end bAY
namespace aCK
def E:=mE [] 33 [] [] []
def aF:=bd f241
theorem aU:Nk E aF:=nk
theorem start a c d e f g b:aG E f241 aF [D.agg [sc (int u64 a),sc (int i64 c),sc (int i64 d),sc (int i64 e),sc (int u64 f),sc (int u64 g)],D.s (sc (int u64 b))]=letI A:=(↑((2:Nat)^min (i64.wrap (c-1)).toNat 64):Int);letI B:=u64.wrap ((1:Int)*A);if i64.wrap (c-1)<0 then none else if u64.wrap ((1:Int)*A)=0 then none else if u64.wrap ((1:Int)*A)=0 then none else aC (u64.wrap (b.tdiv B)==0) (some [D.s (sc (int u64 (b.tmod B))),D.s (sc (int i64 d))]) (some [D.s (sc (int u64 (u64.wrap (u64.wrap ((1:Int)*A)+b.tmod B)))),D.s (sc (int i64 (i64.wrap (i64.wrap (d+i64.wrap (u64.wrap (b.tdiv B)))-1))))]):=eJ aU
def sp(k:K6)(b:Int):Prop×List D:=(bGJ k/\0<=b/\b<9223372036854775808,[.s (.sc (.int .u64 (Jj k b.toNat:Nat))),.s (.sc (.int .i64 (kE k+(Wv k b.toNat:Nat))))])
theorem bIX:kH (kf true)=4503599627370496:=by kernel_rfl
theorem bIY:kH (kf false)=8388608:=by kernel_rfl
theorem bRE:u64.wrap (1*((2^min (i64.wrap ((kf true).2.1-1)).toNat 64:Nat):Int))=4503599627370496:=by kernel_rfl
theorem bRF:u64.wrap (1*((2^min (i64.wrap ((kf false).2.1-1)).toNat 64:Nat):Int))=8388608:=by kernel_rfl
theorem bSI:¬i64.wrap ((kf true).2.1-1)<0:=by rw[wrap_i64 (by simp[kf]) (by simp[kf])];simp[kf]
theorem bSJ:¬i64.wrap ((kf false).2.1-1)<0:=by rw[wrap_i64 (by simp[kf]) (by simp[kf])];simp[kf]
theorem gen{k:K6}{h:Nat}(hh:kH k=h)(h1:1<h)(h2:h<9007199254740992)(hE:-1074<=kE k/\kE k<=0)(b:Int)(hb:0<=b)(xO:b<9223372036854775808)(hn:¬i64.wrap (k.2.1-1)<0)(hw:u64.wrap (1*((2^min (i64.wrap (k.2.1-1)).toNat 64:Nat):Int))=(h:Int)) :
  aG E f241 aF [(pG (.pair (sN .u64) (.pair (sN .i64) (.pair (sN .i64) (.pair (sN .i64) (.pair (sN .u64) (sN .u64))))))).put k,(pN .u64).put b]=some (sp k b).2:=by
 refine(start k.1 k.2.1 k.2.2.1 k.2.2.2.1 k.2.2.2.2.1 k.2.2.2.2.2 b).trans ?_;obtain⟨n,rfl⟩:=cDO hb;have hq:n/h<=n:=cGV _ _;have hm:n%h<h:=cAV _ (by omega);have aXY:n/h<4611686018427387904:=by
  apply cEF;have:2*4611686018427387904<=h*4611686018427387904:=cAA _ (by omega);omega
 have e1:((n:Int)).tdiv (h:Int)=((n/h:Nat):Int):=by rw[cFZ hb,cEA]
 have e2:((n:Int)).tmod (h:Int)=((n%h:Nat):Int):=by rw[cGA hb,cFC]
 have bHP:k.2.2.1=kE k:=rfl;rw[if_neg hn,hw,bI,bI,e1,e2,bHP];clear e1 e2 hw hn;unfold sp Jj Wv;simp only[hh,cCJ];have aXN:n/h=0->n%h=n:=fun hz=>cIT ((Nat.div_eq_zero_iff_lt (by omega)).1 hz)
 generalize n/h=q at *;generalize n%h=r at *;rw[wrap_u64 (n:=(q:Int))]
 by_cases hz:q=0
 ·rw[dU,if_pos hz,hz,aXN hz];simp
 ·rw[cP,if_neg hz,wrap_u64 (n:=(h:Int)+(r:Int)),wrap_i64 (n:=(q:Int)),wrap_i64 (n:=kE k+(q:Int)),wrap_i64];rw[show kE k+(q:Int)-1=kE k+((q-1:Nat):Int)from by omega,Int.natCast_add]
theorem spec:fF E f241 aF (pG (.pair (sN .u64) (.pair (sN .i64) (.pair (sN .i64) (.pair (sN .i64) (.pair (sN .u64) (sN .u64))))))) (pN .u64) sp:=by
 rintro k b ⟨hk,hb,xO⟩;rcases hk with rfl |rfl
 ·exact gen bIX (by omega) (by omega) (by simp[kE,kf]) b hb xO bSI bRE
 ·exact gen bIY (by omega) (by omega) (by simp[kE,kf]) b hb xO bSJ bRF
def aJ:dO:=orc2 (pG (.pair (sN .u64) (.pair (sN .i64) (.pair (sN .i64) (.pair (sN .i64) (.pair (sN .u64) (sN .u64))))))) (pN .u64) sp
theorem ok:OK 241 aJ:=(eI E aF aD func241).jZ rfl spec
end aCK
namespace fL
def E:=mE [(239,bMW.aJ),(240,bAY.aJ),(241,aCK.aJ),(142,wP.aJ),(140,Mk.aJ)] 31 [23] [] []
def aF:=bd f217
theorem aU:Nk E aF:=nk
theorem start a:aG E f217 aF [D.s (sc (int u64 a))]=aN True (aN (bGJ ((9223372036854775808:Int),(53:Int),(-1074:Int),(971:Int),(9218868437227405312:Int),(9221120237041090561:Int))/\0<=a) (aB (decide (9223372036854775808<=a)) fun b=>aB (a%9223372036854775808) fun c=>aN (bGJ ((9223372036854775808:Int),(53:Int),(-1074:Int),(971:Int),(9218868437227405312:Int),(9221120237041090561:Int))/\0<=c/\c<9223372036854775808) (aB (↑(Jj ((9223372036854775808:Int),(53:Int),(-1074:Int),(971:Int),(9218868437227405312:Int),(9221120237041090561:Int)) c.toNat):Int) fun d=>letI A:=dg d.toNat;aB (kE ((9223372036854775808:Int),(53:Int),(-1074:Int),(971:Int),(9218868437227405312:Int),(9221120237041090561:Int))+(↑(Wv ((9223372036854775808:Int),(53:Int),(-1074:Int),(971:Int),(9218868437227405312:Int),(9221120237041090561:Int)) c.toNat):Int)) fun e=>aN (0<=d/\d<18446744073709551616) (aN (bM A/\A.length<=4398046511104) (aB (isNeg (zs b (val A))) fun f=>aB (dg (zs b (val A)).natAbs) fun g=>some [D.agg [sc (bool f),ints u32 g],D.s (sc (int i64 e))]))))):=eJ aU
def Th(a:Int):Int:=zs (decide (9223372036854775808<=a)) (Jj (kf true) (a%9223372036854775808).toNat)
def Xa(a:Int):Int:=-1074+(Wv (kf true) (a%9223372036854775808).toNat:Nat)
def sp(a:Int):Prop×List D:=(0<=a/\a<18446744073709551616/\a%9223372036854775808<9218868437227405312,[zD (Th a),.s (.sc (.int .i64 (Xa a)))])
theorem spec:iH E f217 aF (pN .u64) sp:=by
 rintro a ⟨h0,h1,h2⟩;refine(start a).trans ?_;have hk:bGJ (9223372036854775808,53,-1074,971,9218868437227405312,9221120237041090561):=Or.inl rfl;have ek:(9223372036854775808,53,-1074,971,9218868437227405312,9221120237041090561)=kf true:=rfl;have hm:Jj (kf true) (a%9223372036854775808).toNat<18446744073709551616:=by
  unfold Jj;have:kH (kf true)=4503599627370496:=rfl;rw[this];split <;> omega
 have l:(dg (Jj (kf true) (a%9223372036854775808).toNat)).length<=2:=cU (by simpa using hm);have zf:∀b n,zs b (val (dg n))=zs b n:=fun b n=>by rw[bD]
 rw[gP trivial,gP ⟨hk,h0⟩];simp only[aE,ek,cCJ,zf];rw[gP ⟨Or.inl rfl,by omega,by omega⟩,gP ⟨by omega,by omega⟩,gP ⟨cA _,by omega⟩];rfl
def aJ:dO:=orc1 (pN .u64) sp
theorem ok:OK 217 aJ:=(eI E aF (aA bMW.ok (aA bAY.ok (aA aCK.ok (aA wP.ok (aA Mk.ok aD))))) func217).oV rfl spec
end fL
namespace Small
def E:=mE [(142,wP.aJ)] 9 [5,8] [] []
def aF:=bd f270
theorem aU:Nk E aF:=nk
theorem start a:aG E f270 aF [D.s (sc (int i64 a))]=aC (decide (a<0)) (aN ((0:Int)<=(0:Int)/\(0:Int)<(18446744073709551616:Int)) (some [D.own 156 u32 (dg 0)])) (aN (0<=u64.wrap a/\u64.wrap a<18446744073709551616) (some [D.own 156 u32 (dg (u64.wrap a).toNat)])):=eJ aU
def sp(a:Int):Prop×List D:=(-9223372036854775808<=a/\a<9223372036854775808,[.own kX .u32 (dg a.toNat)])
theorem spec:iH E f270 aF (pN .i64) sp:=by
 rintro a ⟨h1,h2⟩;refine(start a).trans ?_;show _=some [D.own kX .u32 (dg a.toNat)]
 by_cases hn:a<0
 ·rw[aO hn,gP ⟨by omega,by omega⟩,show a.toNat=0 from by omega]
 ·rw[aM hn,wrap_u64,gP ⟨by omega,by omega⟩]
def aJ:dO:=orc1 (pN .i64) sp
theorem ok:OK 270 aJ:=(eI E aF (aA wP.ok aD) func270).oV rfl spec
end Small
namespace He
def E:=mE [(269,Arctan.aJ),(238,Sub.aJ),(141,Add.aJ),(214,sL.aJ),(270,Small.aJ),(202,bAC.aJ),(237,aPG.aJ)] 75 [64] [(4,[0,3])] []
def aF:=bd f255
theorem aU:Nk E aF:=nk
def L4 a b:=nU E f255 aF 4 [bJ a,bJ b]
theorem start a:aG E f255 aF [D.s (sc (int i64 a))]=He.L4 (if(0:Int)>a then(0:Int)else a) 64:=eJ aU
theorem mG a b:L4 a b=letI W:=i64.wrap (a+b);letI I:=Arctan.atan (cMC 57) W.toNat;letI P:=dg (val (dg I.fst)*32+(0:Nat));letI H:=Arctan.atan (cMC 18) W.toNat;letI O:=dg (val (dg H.fst)*48+(0:Nat));letI G:=Arctan.atan (cMC 239) W.toNat;letI Q:=dg (val (dg G.fst)*20+(0:Nat));letI F:=dg (val O+val P);letI B:=dg (val F-val Q);letI A:=i64.wrap (i64.wrap ((48:Int)*i64.wrap ((H.snd:Int)+(2:Int)))+i64.wrap ((32:Int)*i64.wrap ((I.snd:Int)+(2:Int))))+i64.wrap ((20:Int)*i64.wrap ((G.snd:Int)+(2:Int)));letI C:=dg (i64.wrap ((4:Int)*i64.wrap A)).toNat;letI U:=dg (val B-val C);letI T:=dg (val B+val C);letI N:=dg (val T/(2:Nat)^b.toNat);letI K:=dg (val U/(2:Nat)^b.toNat);aN (((2:Int)<=(18:Int)/\(18:Int)<(4294967296:Int))/\0<=i64.wrap (a+b)/\i64.wrap (a+b)<=500000) (aN (((2:Int)<=(57:Int)/\(57:Int)<(4294967296:Int))/\0<=i64.wrap (a+b)/\i64.wrap (a+b)<=500000) (aN (((2:Int)<=(239:Int)/\(239:Int)<(4294967296:Int))/\0<=i64.wrap (a+b)/\i64.wrap (a+b)<=500000) (aN (bM (dg H.fst)/\(dg H.fst).length<=1099511627776/\((0:Int)<=(48:Int)/\(48:Int)<(4294967296:Int))/\(0:Int)<=(0:Int)/\(0:Int)<(4294967296:Int)) (aN (bM (dg I.fst)/\(dg I.fst).length<=1099511627776/\((0:Int)<=(32:Int)/\(32:Int)<(4294967296:Int))/\(0:Int)<=(0:Int)/\(0:Int)<(4294967296:Int)) (aN (bM O/\bM P/\O.length<=1099511627776/\P.length<=1099511627776) (aN (bM (dg G.fst)/\(dg G.fst).length<=1099511627776/\((0:Int)<=(20:Int)/\(20:Int)<(4294967296:Int))/\(0:Int)<=(0:Int)/\(0:Int)<(4294967296:Int)) (aN (cO F/\cO Q/\F.length<=4398046511104/\Q.length<=4398046511104) (aN ((-9223372036854775808:Int)<=i64.wrap ((4:Int)*i64.wrap A)/\i64.wrap ((4:Int)*i64.wrap A)<9223372036854775808) (aN (cO B/\cO C/\B.length<=4398046511104/\C.length<=4398046511104) (aN (bM U/\U.length<=1099511627776/\b<9223372036854775808) (aN (bM B/\bM C/\B.length<=1099511627776/\C.length<=1099511627776) (aN (bM T/\T.length<=1099511627776/\b<9223372036854775808) (aN (cO K/\cO N/\K.length<=4398046511104/\N.length<=4398046511104) (aC (iW (val K) (val N)==0) (some [D.own 156 u32 K]) (He.L4 a (i64.wrap (b*2))))))))))))))))):=lJ aU
def Mi(q g:Nat):Nat×Nat :=
 let a:=Arctan.atan 18 (q+g)
 let b:=Arctan.atan 57 (q+g)
 let c:=Arctan.atan 239 (q+g)
 let sum:=a.1*48+b.1*32-c.1*20
 let off:=4*(48*(a.2+2)+32*(b.2+2)+20*(c.2+2))
 ((sum-off)/2^g,(sum+off)/2^g)
theorem L{q:Nat}(hq:q<=400000)(h:(Mi q 64).1=(Mi q 64).2):L4 q 64=some [D.own kX .u32 (dg (Mi q 64).1)]:=by
 have b1:=Arctan.xA 18 (q+64);have b2:=Arctan.xA 57 (q+64);have b3:=Arctan.xA 239 (q+64);rw[mG];have ew:i64.wrap ((q:Int)+64)=((q+64:Nat):Int):=by rw[wrap_i64];omega
 have k1:cMC 18=18:=rfl;have k2:cMC 57=57:=rfl;have k3:cMC 239=239:=rfl;have k8:cMC 64=64:=rfl;simp only[ew,cCJ,k1,k2,k3,k8,bD,bZO];unfold Mi at h ⊢;simp only at h ⊢;generalize Arctan.atan 18 (q+64)=A at *;generalize Arctan.atan 57 (q+64)=B at *;generalize Arctan.atan 239 (q+64)=C at *;obtain⟨a,i⟩:=A;obtain⟨b,j⟩:=B;obtain⟨c,k⟩:=C;simp only at *;have eo:i64.wrap (4*i64.wrap (i64.wrap (i64.wrap (48*i64.wrap ((i:Int)+2))+i64.wrap (32*i64.wrap ((j:Int)+2)))+i64.wrap (20*i64.wrap ((k:Int)+2))))=((4*(48*(i+2)+32*(j+2)+20*(k+2)):Nat):Int):=by
  rw[wrap_i64 (n:=(i:Int)+2),wrap_i64 (n:=(j:Int)+2),wrap_i64 (n:=(k:Int)+2),wrap_i64 (n:=48*((i:Int)+2)),wrap_i64 (n:=32*((j:Int)+2)),wrap_i64 (n:=20*((k:Int)+2)),wrap_i64 (n:=48*((i:Int)+2)+32*((j:Int)+2)),wrap_i64 (n:=48*((i:Int)+2)+32*((j:Int)+2)+20*((k:Int)+2)),wrap_i64];omega
 simp only[eo,cCJ];have bDU:4*(48*(i+2)+32*(j+2)+20*(k+2))<2^40:=by omega
 generalize 4*(48*(i+2)+32*(j+2)+20*(k+2))=off at *;have bd:∀n:Nat,n<2^(2*(q+64)+4+10)->(dg n).length<=1000000:=fun n hn=>by have:=mR hn;omega
 have hp:2^(2*(q+64)+4+10)=1024*2^(2*(q+64)+4):=by rw[cDP];omega
 have Na:2^40<=2^(2*(q+64)+4):=gO;have q1:=bd a (by omega);have q2:=bd b (by omega);have q3:=bd c (by omega);have q4:=bd (a*48) (by omega);have q5:=bd (b*32) (by omega);have q6:=bd (c*20) (by omega);have q7:=bd (a*48+b*32) (by omega);have q8:=bd (a*48+b*32-c*20) (by omega);have q9:=bd off (by omega);have aWS:=bd (a*48+b*32-c*20-off) (by omega);have bRU:=bd (a*48+b*32-c*20+off) (by omega);have q12:=bd ((a*48+b*32-c*20-off)/2^64) (cFA (cGV _ _) (by omega));have q13:=bd ((a*48+b*32-c*20+off)/2^64) (cFA (cGV _ _) (by omega));have ce:iW ((a*48+b*32-c*20-off)/2^64) ((a*48+b*32-c*20+off)/2^64)=0:=by rw[h];unfold iW;simp
 rw[gP (by
  repeat' apply And.intro
  all_goals first |exact bA _ |exact cA _ |omega),gP (by
  repeat' apply And.intro
  all_goals first |exact bA _ |exact cA _ |omega),gP (by
  repeat' apply And.intro
  all_goals first |exact bA _ |exact cA _ |omega),gP (by
  repeat' apply And.intro
  all_goals first |exact bA _ |exact cA _ |omega),gP (by
  repeat' apply And.intro
  all_goals first |exact bA _ |exact cA _ |omega),gP (by
  repeat' apply And.intro
  all_goals first |exact bA _ |exact cA _ |omega),gP (by
  repeat' apply And.intro
  all_goals first |exact bA _ |exact cA _ |omega),gP (by
  repeat' apply And.intro
  all_goals first |exact bA _ |exact cA _ |omega),gP (by
  repeat' apply And.intro
  all_goals first |exact bA _ |exact cA _ |omega),gP (by
  repeat' apply And.intro
  all_goals first |exact bA _ |exact cA _ |omega),gP (by
  repeat' apply And.intro
  all_goals first |exact bA _ |exact cA _ |omega),gP (by
  repeat' apply And.intro
  all_goals first |exact bA _ |exact cA _ |omega),gP (by
  repeat' apply And.intro
  all_goals first |exact bA _ |exact cA _ |omega),gP (by
  repeat' apply And.intro
  all_goals first |exact bA _ |exact cA _ |omega),dU ce]
open R in
theorem num {q:Nat} (hq:q<=135800):(Mi q 64).1=R.pF q/\(Mi q 64).2=R.pF q:=by
 obtain⟨j1,e1⟩:=R.Br (k:=18) (by decide) (w:=q+64) (by omega);obtain⟨j2,e2⟩:=R.Br (k:=57) (by decide) (w:=q+64) (by omega);obtain⟨j3,e3⟩:=R.Br (k:=239) (by decide) (w:=q+64) (by omega);have hg:=R.Ej.bFE;have hp:=R.iT.1;have hw:=R.Mf;unfold Mi;dsimp only;generalize Arctan.atan 18 (q+64)=A at *;generalize Arctan.atan 57 (q+64)=B at *;generalize Arctan.atan 239 (q+64)=C at *;obtain⟨a,i⟩:=A;obtain⟨b,j⟩:=B;obtain⟨c,k⟩:=C;dsimp only at *;have bPH:R.ab (((2^(q+64):Nat):Rat)*(R.pi-R.aUM))<=1:=by
  have e:R.pw=(q+64)+(R.pw-(q+64)):=by omega
  have P:(0:Rat)<((2^(R.pw-(q+64)):Nat):Rat):=by exact_mod_cast cBM (by decide)
  have L:(33554432:Rat)<=((2^(R.pw-(q+64)):Nat):Rat):=by
   have:2^25<=2^(R.pw-(q+64)):=cBN (by decide) (by omega);have bSM:(2:Nat)^25=33554432:=rfl;rw[bSM]at this;exact_mod_cast this
  rw[e,cDP,cFK]at hg;refine R.bP P ?_;have e3:((2^(R.pw-(q+64)):Nat):Rat)*R.ab (((2^(q+64):Nat):Rat)*(R.pi-R.aUM))=R.ab (((2^(q+64):Nat):Rat)*((2^(R.pw-(q+64)):Nat):Rat)*(R.pi-R.aUM)):=by
   rw[R.dV,R.dV (((2^(q+64):Nat):Rat)*_),R.dV ((2^(q+64):Nat):Rat) ((2^(R.pw-(q+64)):Nat):Rat),R.bQ (cDU P)];grind
  rw[e3];grind
 have hW:(18446744073709551616:Rat)<=((2^(q+64):Nat):Rat):=by
  have:2^64<=2^(q+64):=cBN (by decide) (by omega);have bSK:(2:Nat)^64=18446744073709551616:=rfl;rw[bSK]at this;exact_mod_cast this
 have hm:=R.aI (show 0<=((2^(q+64):Nat):Rat) by grind) (show 0<=R.pi-3 by grind);have J1:(i:Rat)<=200000:=by exact_mod_cast bZJ j1 (by omega)
 have J2:(j:Rat)<=200000:=by exact_mod_cast bZJ j2 (by omega)
 have J3:(k:Rat)<=200000:=by exact_mod_cast bZJ j3 (by omega)
 have N1:(0:Rat)<=(i:Rat):=by exact_mod_cast cEN _
 have N2:(0:Rat)<=(j:Rat):=by exact_mod_cast cEN _
 have N3:(0:Rat)<=(k:Rat):=by exact_mod_cast cEN _
 have aXZ:((2^(q+64):Nat):Rat)*(R.pi-R.aUM)=((2^(q+64):Nat):Rat)*R.pi-(48*(((2^(q+64):Nat):Rat)*R.Oa 18)+32*(((2^(q+64):Nat):Rat)*R.Oa 57)-20*(((2^(q+64):Nat):Rat)*R.Oa 239)):=by
  unfold R.aUM;grind
 rw[aXZ]at bPH;rw[R.bY]at e1 e2 e3 bPH;generalize ((2^(q+64):Nat):Rat)*R.Oa 18=x at *;generalize ((2^(q+64):Nat):Rat)*R.Oa 57=y at *;generalize ((2^(q+64):Nat):Rat)*R.Oa 239=z at *;have hle:c*20<=a*48+b*32:=by
  have:(c:Rat)*20<=(a:Rat)*48+(b:Rat)*32:=by grind
  exact_mod_cast this
 have hX:((a*48+b*32-c*20:Nat):Rat)+(c:Rat)*20=(a:Rat)*48+(b:Rat)*32:=by exact_mod_cast(show a*48+b*32-c*20+c*20=a*48+b*32 by omega)
 have hO:((4*(48*(i+2)+32*(j+2)+20*(k+2)):Nat):Rat)=4*(48*((i:Rat)+2)+32*((j:Rat)+2)+20*((k:Rat)+2)):=by push_cast;rfl
 have aSJ:R.ab (((a*48+b*32-c*20:Nat):Rat)-((2^(q+64):Nat):Rat)*R.pi)<=((4*(48*(i+2)+32*(j+2)+20*(k+2)):Nat):Rat):=by
  rw[hO,R.bY];constructor <;> grind
 have:=R.aUO (q:=q) (g:=64) (by omega) (by decide) (by have:(2:Nat)^(64-24)=1099511627776:=rfl;omega) aSJ;exact⟨this.2.1,this.2.2⟩
def sp(q:Int):Prop×List D:=(0<=q/\q<=135800,[.own kX .u32 (dg (R.pF q.toNat))])
theorem spec:iH E f255 aF (pN .i64) sp:=by
 rintro q ⟨h1,h2⟩;obtain⟨q,rfl⟩:=cDO h1;obtain⟨n1,n2⟩:=num (q:=q) (by omega);refine(start q).trans ?_;rw[bI];have:=L (q:=q) (by omega) (n1.trans n2.symm);rw[n1]at this;exact this
def aJ:dO:=orc1 (pN .i64) sp
theorem ok:OK 255 aJ:=(eI E aF (aA Arctan.ok (aA Sub.ok (aA Add.ok (aA sL.ok (aA Small.ok (aA bAC.ok (aA aPG.ok aD))))))) func255).oV rfl spec
end He
namespace Of
def E:=mE [(216,Jb.aJ),(271,pZ.aJ)] 14 [] [] []
def aF:=bd f256
theorem aU:Nk E aF:=nk
theorem start a b c d:aG E f256 aF [D.agg [sc (bool a),ints u32 b],D.agg [sc (bool c),ints u32 d]]=letI B:=pZ.Pv (zv (a,b)) (zv (c,d));aC c (aN (dS (a,b)) (aB (isNeg (-zv (a,b))) fun e=>aB (dg (-zv (a,b)).natAbs) fun f=>aN (dS (c,d)) (aB (isNeg (-zv (c,d))) fun g=>aB (dg (-zv (c,d)).natAbs) fun h=>letI A:=pZ.Pv (zv (e,f)) (zv (g,h));aN (dS (e,f)/\dS (g,h)/\g=false/\0<h.length/\f.length<=274877906942/\h.length<=274877906942) (aB (isNeg A) fun i=>aB (dg A.natAbs) fun j=>some [D.agg [sc (bool i),ints u32 j]])))) (aN (dS (a,b)/\dS (c,d)/\c=false/\0<d.length/\b.length<=274877906942/\d.length<=274877906942) (aB (isNeg B) fun k=>aB (dg B.natAbs) fun l=>some [D.agg [sc (bool k),ints u32 l]])):=eJ aU
def sp(x y:Bool×List Int):Prop×List D:=(dS x/\dS y/\y.1=false/\0<y.2.length/\x.2.length<=274877906942/\y.2.length<=274877906942,[zD (pZ.Pv (zv x) (zv y))])
theorem spec:fF E f256 aF nT nT sp:=by
 intro x y h;refine(start x.1 x.2 y.1 y.2).trans ?_;have hs:y.1=false:=h.2.2.1;rw[Nz hs];exact gP h
def aJ:dO:=orc2 nT nT sp
theorem ok:OK 256 aJ:=(eI E aF (aA Jb.ok (aA pZ.ok aD)) func256).jZ rfl spec
end Of
namespace Sa
def E:=mE [(84,Fg.aJ),(253,nI.aJ),(137,Oh.aJ),(136,Bv.aJ),(184,aCD.aJ),(140,Mk.aJ),(214,sL.aJ),(254,aCJ.aJ),(255,He.aJ),(256,Of.aJ),(257,nP.aJ),(183,Bt.aJ),(258,aOC.aJ)] 64 [] [(6,[6,7,8,9,10])] [6]
def aF:=bd f242
theorem aU:Nk E aF:=nk
def J6 a b c d e f:=lP E f242 aF 6 [bK 0 117 [bC a,sc (slice none 0 0)],bK 1 117 [bC b,sc (slice none 0 0)],bJ c,bJ d,bK 4 117 [bC e,iB f]]
theorem start a d b c:aG E f242 aF [D.agg [sc (bool a),ints u32 d],D.s (sc (int i64 b)),D.s (sc (int i64 c))]=letI H:=nI.aAJ (zv (a,d)) (i64.wrap (b+c));letI C:=(↑(bl (val d)):Int);letI A:=c+i64.wrap ((if i64.wrap (C+b)>(0:Int)then i64.wrap (C+b)else(0:Int))+4);letI I:=b+i64.wrap A;letI G:=nI.aAJ (zv (a,d)) (i64.wrap I);aN (cO d/\d.length<=4398046511104) (aN (dS (a,d)/\(-1099511627776:Int)<=i64.wrap I/\i64.wrap I<=1099511627776) (aB (isNeg G) fun e=>aB (dg G.natAbs) fun f=>letI K:=(↑(zv (e,f)).natAbs:Int);letI B:=Sa.J6 false false (i64.wrap ((if i64.wrap (C+b)>(0:Int)then i64.wrap (C+b)else(0:Int))+4)) (i64.wrap A) e f;aC (i64.wrap ((if i64.wrap (C+b)>(0:Int)then i64.wrap (C+b)else(0:Int))+4)==4) (aN (dS (e,f)) (aB (isNeg K) fun g=>aB (dg K.natAbs) fun h=>aN (dS (g,h)/\(2:Int)<=(1099511627776:Int)) (aB (isNeg (zv (g,h)*4)) fun i=>aB (dg (zv (g,h)*4).natAbs) fun j=>aN (i64.wrap A<=1099511627776) (aB (dg ((2:Nat)^(i64.wrap A).toNat)) fun k=>aN (bM k/\k.length<=1099511627776/\((0:Int)<=(3:Int)/\(3:Int)<(4294967296:Int))/\(0:Int)<=(0:Int)/\(0:Int)<(4294967296:Int)) (aB (dg (val k*3+(0:Nat))) fun l=>letI F:=zs false (val l);letI N:=(isNeg F,dg F.natAbs);aN (bM l/\l.length<=4398046511104) (aN (dS (i,j)/\dS N/\j.length<549755813888/\(dg F.natAbs).length<549755813888) (aB (cZ (zv (i,j)) (zv N)) fun m=>aC (decide (m<=0)) (aN (dS (a,d)/\(-1099511627776:Int)<=i64.wrap (b+c)/\i64.wrap (b+c)<=1099511627776) (aB (isNeg H) fun n=>aB (dg H.natAbs) fun o=>some [D.agg [sc (bool false),sc (slice none 0 0)],D.agg [sc (bool n),ints u32 o]])) B))))))) B)):=eJ aU
theorem sW a b c d e f:J6 a b c d e f=letI G:=zv (e,f)*2;letI C:=dS (e,f)/\(1:Int)<=(1099511627776:Int);letI A:=dg (R.pF d.toNat);aN (0<=d/\d<=135800) (aN (bM A/\A.length<=4398046511104) (aB (isNeg (zs false (val A))) fun g=>aB (dg (zs false (val A)).natAbs) fun h=>aN C (aB (isNeg G) fun i=>aB (dg G.natAbs) fun j=>letI F:=pZ.Pv (zv (i,j)) (zv (g,h));aN (dS (i,j)/\dS (g,h)/\g=false/\0<h.length/\j.length<=274877906942/\h.length<=274877906942) (aB (isNeg F) fun k=>aB (dg F.natAbs) fun l=>letI H:=zv (k,l)*zv (g,h);aN C (aB (isNeg G) fun m=>aB (dg G.natAbs) fun n=>aN (dS (k,l)/\dS (g,h)) (aB (isNeg H) fun o=>aB (dg H.natAbs) fun p=>letI I:=zv (m,n)-zv (o,p);aN (dS (m,n)/\dS (o,p)) (aB (isNeg I) fun q=>aB (dg I.natAbs) fun r=>letI B:=zv (q,r)/(↑((2:Nat)^(i64.wrap (c+1)).toNat):Int);aN (dS (q,r)/\(-9223372036854775808:Int)<=i64.wrap (c+1)/\i64.wrap (c+1)<9223372036854775808) (aB (isNeg B) fun s=>aB (dg B.natAbs) fun t=>some [D.agg [sc (bool k),ints u32 l],D.agg [sc (bool s),ints u32 t]])))))))):=cJ aU
def sp(m:Bool×List Int)(e q:Int):Prop×List D:=(dS m/\bl (zv m).natAbs<=64/\(-1200<=e/\e<=1000)/\1<=q/\q<=134700,[zD (k7 (zv m) e q),zD (y7 (zv m) e q)])
theorem aUF{m e:Int}{n:Nat}(hm:bl m.natAbs<=64)(he:e<=n):bl (nI.aAJ m e).natAbs<=64+n:=by
 unfold nI.aAJ;split
 ·rw[cEC,cMQ];exact bZJ (cN.Dd hm) (by omega)
 ·exact bZJ (gD (qL (cBM (by decide)))) (by omega)
theorem aKW{a b:Int}(hb:0<b):(pZ.Pv a b).natAbs<=a.natAbs+1:=by
 obtain⟨n,rfl⟩:=cDO (cBT hb);have:=qL (z:=a) (q:=n) (by omega);unfold pZ.Pv;split <;> omega
theorem spec:bAB E f242 aF nT (pN .i64) (pN .i64) sp:=by
 rintro m e q ⟨hm,bm,⟨e0,e1⟩,q0,q1⟩;have s:=start m.1 m.2 e q;have ha:val m.2=(zv m).natAbs:=(kQ m).symm;have bKH:zv (m.1,m.2)=zv m:=rfl;have wt:i64.wrap (((bl (zv m).natAbs:Nat):Int)+e)=((bl (zv m).natAbs:Nat):Int)+e:=wrap_i64;have ht:t7 (zv m) e=(if((bl (zv m).natAbs:Nat):Int)+e>0 then((bl (zv m).natAbs:Nat):Int)+e else 0)+4:=rfl;have tb:4<=t7 (zv m) e/\t7 (zv m) e<=1068:=by rw[ht];split <;> omega
 have bRC:i64.wrap ((if((bl (zv m).natAbs:Nat):Int)+e>0 then((bl (zv m).natAbs:Nat):Int)+e else 0)+4)=t7 (zv m) e:=by rw[<-ht,wrap_i64]
 have ww:i64.wrap (q+t7 (zv m) e)=q+t7 (zv m) e:=wrap_i64;have we:i64.wrap (e+(q+t7 (zv m) e))=e+(q+t7 (zv m) e):=wrap_i64;have wq:i64.wrap (e+q)=e+q:=wrap_i64;have w1:i64.wrap (t7 (zv m) e+1)=t7 (zv m) e+1:=wrap_i64;have hx:nI.aAJ (zv m) (e+(q+t7 (zv m) e))=x7 (zv m) e q:=rfl;have zf:∀n:Nat,zs false n=(n:Int):=fun _=>rfl
 have len:=hm.len;have bx:bl (x7 (zv m) e q).natAbs<=137000:=bZJ (aUF (n:=136900) bm (by omega)) (by omega);have two2:bl 2=2:=rfl;have bMQ:bl (x7 (zv m) e q*2).natAbs<=137002:=by rw[cEC];exact bZJ (mK _ _) (by show bl _+bl 2<=_;omega)
 have bQG:bl (((x7 (zv m) e q).natAbs:Int)*4).natAbs<=137003:=by
  rw[cEC,cED];have:bl 4=3:=rfl;exact bZJ (mK _ _) (by show bl _+bl 4<=_;omega)
 obtain⟨w,hw⟩:=cDO (show 0<=q+t7 (zv m) e by omega);have bw:bl (2^w*3)<=137000:=by
  have h1:=mK (2^w) 3;have h2:=Uu w;have h3:bl 3=2:=rfl;omega
 have bXN:bl (2^w)<=137000:=by rw[Uu];omega
 have lw1:=fJ bXN;have lw3:=fJ bw;have lx4:=fJ bQG;obtain⟨Fs,F0⟩:=cN.Cv (g:=w) (by omega);have lF:=fJ Fs;have bST:0<(dg (R.pF w)).length:=by
  have:=fZ (n:=R.pF w);omega
 have bk:bl (pZ.Pv (x7 (zv m) e q*2) (R.pF w:Nat)).natAbs<=137003:=by
  refine bZJ (gD (aKW (by omega))) (bZJ (qV _ _) ?_);have:bl 1=1:=rfl;omega
 have bXO:bl (pZ.Pv (x7 (zv m) e q*2) (R.pF w:Nat)*(R.pF w:Nat)).natAbs<=280000:=by
  rw[cEC,cED];exact bZJ (mK _ _) (by omega)
 have br:bl (x7 (zv m) e q*2-pZ.Pv (x7 (zv m) e q*2) (R.pF w:Nat)*(R.pF w:Nat)).natAbs<=280001:=by
  refine bZJ (gD (show _<=(x7 (zv m) e q*2).natAbs+(pZ.Pv (x7 (zv m) e q*2) (R.pF w:Nat)*(R.pF w:Nat)).natAbs by omega)) (bZJ (qV _ _) ?_);omega
 have lx2:=fJ bMQ;have nF:isNeg (R.pF w:Int)=false:=fN.2 (cIA _);have kN:∀{n k:Nat},bl n<=k->k<=17179869184->dS (isNeg (n:Int),dg n):=by
  intro n k h1 h2;have:=eA (z:=(n:Int)) (k:=k) (by rw[cED];exact h1) h2;rwa [cED]at this
 have vN:∀n:Nat,zv (isNeg (n:Int),dg n)=(n:Int):=fun n=>by
  have:=jD (n:Int);rwa [cED]at this
 simp only[ha,bKH,wt,bRC,ww,we,wq,hx]at s;simp only[hw,bZO,cCJ,bD,zf,cED,aE,jD,vN]at s;rw[gP ⟨hm.1,by omega⟩,gP ⟨hm,by omega,by omega⟩]at s;have aFV:aKB (zv m) e q=false->J6 false false (t7 (zv m) e) (w:Int) (isNeg (x7 (zv m) e q)) (dg (x7 (zv m) e q).natAbs)=some (sp m e q).2:=by
  intro hs;unfold sp k7 y7;dsimp only;rw[hs,cond_false,cond_false,k7,hs,cond_false,hw,cCJ,sW];simp only[cCJ,bD,zf,cED,aE,jD,vN,w1];rw[gP ⟨by omega,by omega⟩,gP ⟨cA _,by omega⟩,gP ⟨eA bx (by omega),by decide⟩,gP ⟨eA bMQ (by omega),kN Fs (by omega),nF,bST,by omega,by omega⟩,gP ⟨eA bx (by omega),by decide⟩,
   gP ⟨eA bk (by omega),kN Fs (by omega)⟩,gP ⟨eA bMQ (by omega),eA bXO (by omega)⟩,gP ⟨eA br (by omega),by omega,by omega⟩]
  rfl
 by_cases c4:t7 (zv m) e=4
 ·rw[dU c4,gP (eA bx (by omega)),gP ⟨kN (by have:=bx;omega) (by omega),by decide⟩,gP,gP ⟨cA _,by omega,⟨by decide,by decide⟩,by decide,by decide⟩,gP ⟨cA _,by omega⟩,gP ⟨eA bQG (by omega),kN bw (by omega),by omega,by omega⟩]at s
  by_cases c5:((x7 (zv m) e q).natAbs:Int)*4<=((2^w*3:Nat):Int)
  ·have hs:aKB (zv m) e q=true:=by
    unfold aKB;rw[dqT c4,cBO,hw,cCJ];exact dqT c5
   have cz:cZ (((x7 (zv m) e q).natAbs:Int)*4) ((2^w*3:Nat):Int)<=0:=by unfold cZ;split <;> (try split) <;> omega
   rw[aO cz,gP ⟨hm,by omega,by omega⟩]at s;refine⟨_,s,?_⟩;unfold sp k7 y7;dsimp only;rw[hs,cond_true,cond_true];refine .cons ?_ (iZ.refl _);unfold zD;rw[show(0:Int).natAbs=0 from rfl,cL];exact Df.agg (.cons (Ez.refl _) (.cons (Ez.nil _) (Ab.refl _)))
  ·have cz:¬cZ (((x7 (zv m) e q).natAbs:Int)*4) ((2^w*3:Nat):Int)<=0:=by unfold cZ;split <;> (try split) <;> omega
   rw[aM cz]at s;refine⟨_,s.trans (aFV ?_),iZ.refl _⟩;unfold aKB;rw[hw,cCJ,dqF c5,cDY]
 ·rw[cP c4]at s;refine⟨_,s.trans (aFV ?_),iZ.refl _⟩;unfold aKB;rw[dqF c4,cDW]
def aJ:dO:=orc3 nT (pN .i64) (pN .i64) sp
theorem ok:OK 242 aJ:=(eI E aF (aA Fg.ok (aA nI.ok (aA Oh.ok (aA Bv.ok (aA aCD.ok (aA Mk.ok (aA sL.ok (aA aCJ.ok (aA He.ok (aA Of.ok (aA nP.ok (aA Bt.ok (aA aOC.ok aD))))))))))))) func242).bIA rfl spec
end Sa
namespace Pe
def E:=mE [] 13 [] [(2,[0,3])] []
def aF:=bd f259
theorem aU:Nk E aF:=nk
def L2 a b:=nU E f259 aF 2 [bJ a,bJ b]
theorem start a:aG E f259 aF [D.s (sc (int i64 a))]=Pe.L2 a 8:=eJ aU
theorem lE a b:L2 a b=aC (decide (i64.wrap (i64.wrap ((4:Int)*b)*b)<a)) (Pe.L2 a (i64.wrap (b+1))) (some [D.s (sc (int i64 b))]):=lJ aU
def bKN(w:Int):Nat:=THalvings.hlv w 400 8
def sp(w:Int):Prop×List D:=(w<=600000,[.s (.sc (.int .i64 (bKN w:Nat)))])
theorem L{w:Int}(hw:w<=600000):∀f h:Nat,h+f=408->L2 w h=some [.s (.sc (.int .i64 (THalvings.hlv w f h:Nat)))]
 |0,h,hh=>by
  obtain rfl:h=408:=by omega
  have e:i64.wrap (i64.wrap (4*((408:Nat):Int))*((408:Nat):Int))=665856:=by decide +kernel
  rw[lE,e,aM];rfl
 |f+1,h,hh=>by
  have hm:4*(h:Int)*h<=4*408*408:=Int.mul_le_mul (by omega) (by omega) (by omega) (by omega);have h0:0<=4*(h:Int)*h:=cKF (by omega) (by omega);have e:i64.wrap (i64.wrap (4*(h:Int))*(h:Int))=4*(h:Int)*h:=by
   rw[wrap_i64 (n:=4*(h:Int))];exact wrap_i64
  have e1:i64.wrap ((h:Int)+1)=((h+1:Nat):Int):=by rw[wrap_i64];omega
  rw[lE,e,e1];unfold THalvings.hlv
  by_cases c:4*(h:Int)*h<w
  ·rw[aO c,if_pos c];exact L hw f (h+1) (by omega)
  ·rw[aM c,if_neg c]
theorem spec:iH E f259 aF (pN .i64) sp:=fun w h=>(start w).trans (L h 400 8 rfl)
def aJ:dO:=orc1 (pN .i64) sp
theorem ok:OK 259 aJ:=(eI E aF aD func259).oV rfl spec
end Pe
namespace aOE
def E:=mE [(183,Bt.aJ),(215,Vc.aJ)] 14 [] [] []
def aF:=bd f260
theorem aU:Nk E aF:=nk
theorem start a b d e c:aG E f260 aF [D.agg [sc (bool a),ints u32 b],D.agg [sc (bool d),ints u32 e],D.s (sc (bool c))]=letI C:=zv (a,b)+zv (d,e);letI B:=zv (a,b)-zv (d,e);letI A:=dS (a,b)/\dS (d,e);aC c (aN A (some [D.agg [sc (bool (isNeg B)),ints u32 (dg B.natAbs)]])) (aN A (some [D.agg [sc (bool (isNeg C)),ints u32 (dg C.natAbs)]])):=eJ aU
def sp(x y:Bool×List Int)(c:Bool):Prop×List D:=(dS x/\dS y,[zD (bif c then zv x-zv y else zv x+zv y)])
theorem spec:uQ E f260 aF nT nT pB sp:=by
 intro x y c h;refine(start x.1 x.2 y.1 y.2 c).trans ?_;cases c
 ·rw[bF];exact gP h
 ·rw[bT];exact gP h
def aJ:dO:=orc3 nT nT pB sp
theorem ok:OK 260 aJ:=(eI E aF (aA Bt.ok (aA Vc.ok aD)) func260).Dn rfl spec
end aOE
namespace Zi
def can(a b:List Int):Prop:=Contract prog base.glob 274 [(pI .u32).put a,(pI .u32).put b] [.own kX .u32 (dg (val a*val b))]
def less(n:Nat):Prop:=∀c d:List Int,cO c->cO d->c.length+d.length<n->can c d
def prec:dO:=orc2 (pI .u32) (pI .u32) fun a b=>(can a b,[.own kX .u32 (dg (val a*val b))])
theorem Km:nR prog base.glob 274 prec:=by
 intro ds g rs hd hg;unfold prec orc2 at hd;split at hd
 ·split at hd
  ·rename_i x y hx hy;have hd:=Option.some.inj hd;have e1:g=can x y:=(Prod.mk.inj hd).1.symm;have e2:=(Prod.mk.inj hd).2;subst e1;rw[<-e2];exact⟨Contract.bGO (show Contract _ _ _ _ _ from hg) ((pI .u32).le hx) ((pI .u32).le hy),wJ (c:=(f274.body).getD .skip) func274 rfl rfl⟩
  ·cases hd
 ·cases hd
end Zi
namespace aON
def E:=mE [(273,Mul.aJ),(134,Norm.aJ),(141,Add.aJ),(238,Sub.aJ),(181,aQA.aJ),(274,Zi.prec)] 86 [22,41,85] [(7,[0,1,5])] [7]
def aF:=bd f274
theorem aU:Nk E aF:=nk
def J7 a b c:=lP E f274 aF 7 [mP a,mP b,bJ c]
theorem start a b:aG E f274 aF [D.s (ints u32 a),D.s (ints u32 b)]=letI G:=dg (val a*val b);letI F:=(a.length:Int);letI C:=(b.length:Int);letI B:=bM a/\bM b/\a.length<=549755813888/\b.length<=549755813888;letI A:=if C>F then C else F;aC (decide ((if C<F then C else F)<64)) (aN B (aB G fun c=>some [D.own 156 u32 c])) (aC (decide (F<=i64.wrap (A.tdiv 2))) (aN B (aB G fun d=>some [D.own 156 u32 d])) (aC (decide (C<=i64.wrap (A.tdiv 2))) (aN B (aB G fun e=>some [D.own 156 u32 e])) (aON.J7 a b (i64.wrap (A.tdiv 2))))):=eJ aU
theorem Hi a b c:J7 a b c=letI H:=(a.length:Int);letI G:=(b.length:Int);letI F:=cEH 0 (cEG c.toNat b);letI C:=cEH 0 (cEG c.toNat a);letI B:=cEH c.toNat (cEG G.toNat b);letI A:=cEH c.toNat (cEG H.toNat a);if(0:Int)<=(0:Int)/\0<=c/\c<=H then aN (bM C/\C.length<=4398046511104) (aB (dg (val C)) fun d=>if 0<=c/\c<=H/\H<=H then aN (bM A/\A.length<=4398046511104) (aB (dg (val A)) fun e=>if(0:Int)<=(0:Int)/\0<=c/\c<=G then aN (bM F/\F.length<=4398046511104) (aB (dg (val F)) fun f=>if 0<=c/\c<=G/\G<=G then aN (bM B/\B.length<=4398046511104) (aB (dg (val B)) fun g=>aN (Zi.can d f) (aB (dg (val d*val f)) fun h=>aN (Zi.can e g) (aB (dg (val e*val g)) fun i=>aN (bM d/\bM e/\d.length<=1099511627776/\e.length<=1099511627776) (aB (dg (val d+val e)) fun j=>aN (bM f/\bM g/\f.length<=1099511627776/\g.length<=1099511627776) (aB (dg (val f+val g)) fun k=>aN (Zi.can j k) (aB (dg (val j*val k)) fun l=>aN (bM h/\bM i/\h.length<=1099511627776/\i.length<=1099511627776) (aB (dg (val h+val i)) fun m=>aN (cO l/\cO m/\l.length<=4398046511104/\m.length<=4398046511104) (aB (dg (val l-val m)) fun n=>aN (cO n/\n.length<=1099511627776/\i64.wrap ((32:Int)*c)<=1099511627776) (aB (dg (val n*(2:Nat)^(i64.wrap ((32:Int)*c)).toNat)) fun o=>aN (cO i/\i.length<=1099511627776/\i64.wrap ((64:Int)*c)<=1099511627776) (aB (dg (val i*(2:Nat)^(i64.wrap ((64:Int)*c)).toNat)) fun p=>aN (bM o/\bM p/\o.length<=1099511627776/\p.length<=1099511627776) (aB (dg (val o+val p)) fun q=>aN (bM h/\bM q/\h.length<=1099511627776/\q.length<=1099511627776) (aB (dg (val h+val q)) fun r=>some [D.own 156 u32 r]))))))))))))else none)else none)else none)else none:=cJ aU
theorem split{a:List Int}(h:cO a){k:Nat}(hk:k<=a.length):val a=val (a.take k)+2^(32*k)*val (a.drop k):=by
 have:=fD a hk;rwa [show(4294967296:Nat)^k=2^(32*k)from Ji k]at this
theorem aXJ{a0 a1 b0 b1 P:Nat}:a0*b0+(((a0+a1)*(b0+b1)-(a0*b0+a1*b1))*P+a1*b1*(P*P))=(a0+P*a1)*(b0+P*b1):=by
 have e:(a0+a1)*(b0+b1)-(a0*b0+a1*b1)=a0*b1+a1*b0:=by
  rw[bZH,cDN,cDN];omega
 rw[e];grind
theorem ml{u v m n:Nat}(hu:(dg u).length<=m)(hv:(dg v).length<=n):(dg (u*v)).length<=m+n:=by
 refine cU ?_;rw[cDP];have q1:u<4294967296^m:=bZN oO (cBN (by omega) hu);have q2:v<4294967296^n:=bZN oO (cBN (by omega) hv);exact cGW q1 q2
theorem al{u v m:Nat}(hu:(dg u).length<=m)(hv:(dg v).length<=m):(dg (u+v)).length<=m+1:=bZJ (wF u v) (Nat.succ_le_succ (Nat.max_le.2 ⟨hu,hv⟩))
theorem sl{u v m:Nat}(hu:(dg u).length<=m):(dg (u-v)).length<=m:=bZJ (zF u v) hu
theorem hl{u m k j:Nat}(hu:(dg u).length<=m)(hk:k=32*j):(dg (u*2^k)).length<=m+j+1:=by
 have h:=zG u k;have e:k/32=j:=by omega
 rw[e]at h;exact bZJ h (cMU (cMU hu j) 1)
theorem aDR{x0 x1 y0 y1 k:Nat}(n0:(dg x0).length<=k+1)(n1:(dg x1).length<=k+1)(n2:(dg y0).length<=k+1)(n3:(dg y1).length<=k+1) :
  (dg (x0+x1)).length<=k+2/\(dg (y0+y1)).length<=k+2/\(dg (x0*y0)).length<=5*k+20/\(dg (x1*y1)).length<=5*k+20/\(dg ((x0+x1)*(y0+y1))).length<=5*k+20/\(dg (x0*y0+x1*y1)).length<=5*k+20 /\
  (dg ((x0+x1)*(y0+y1)-(x0*y0+x1*y1))).length<=5*k+20/\(dg (((x0+x1)*(y0+y1)-(x0*y0+x1*y1))*2^(32*k))).length<=5*k+20/\(dg (x1*y1*2^(64*k))).length<=5*k+20 /\
  (dg (((x0+x1)*(y0+y1)-(x0*y0+x1*y1))*2^(32*k)+x1*y1*2^(64*k))).length<=5*k+20:=by
 have z1:k+1+(k+1)<=5*k+20:=by omega
 have z2:k+1+1+(k+1+1)<=5*k+20:=by omega
 have z3:k+1+(k+1)+1<=5*k+20:=by omega
 have z4:k+1+1+(k+1+1)+k+1<=4*k+19:=by omega
 have z5:k+1+(k+1)+2*k+1<=4*k+19:=by omega
 have z6:4*k+19+1<=5*k+20:=by omega
 have z7:4*k+19<=5*k+20:=by omega
 have aHO:64*k=32*(2*k):=by omega
 have s1:=al n0 n1;have s2:=al n2 n3;have t0:=ml n0 n2;have t1:=ml n1 n3;have t2:=ml s1 s2;have t3:=al t0 t1;have t4:=sl (v:=x0*y0+x1*y1) t2;have t5:=bZJ (hl (k:=32*k) t4 rfl) z4;have t6:=bZJ (hl (k:=64*k) t1 aHO) z5;exact⟨s1,s2,bZJ t0 z1,bZJ t1 z1,bZJ t2 z2,bZJ t3 z3,bZJ t4 z2,bZJ t5 z7,bZJ t6 z7,bZJ (al t5 t6) z6⟩
theorem eval{a b:List Int}(ha:cO a)(hb:cO b)(hN:a.length+b.length<=4294967296)(hc:Zi.less (a.length+b.length)):aG E f274 aF [(pI .u32).put a,(pI .u32).put b]=some [.own kX .u32 (dg (val a*val b))]:=by
 refine(start a b).trans ?_;have g0:bM a/\bM b/\a.length<=549755813888/\b.length<=549755813888:=⟨ha.iA,hb.iA,by omega,by omega⟩
 by_cases c1:(if(b.length:Int)<(a.length:Int)then(b.length:Int)else(a.length:Int))<64
 ·rw[aO c1,gP g0,aE]
 ·rw[aM c1];obtain⟨k,hk⟩:∃k:Nat,k=max a.length b.length/2:=⟨_,rfl⟩;have ek:i64.wrap ((if(b.length:Int)>(a.length:Int)then(b.length:Int)else(a.length:Int)).tdiv 2)=(k:Int):=by
   have e1:(if(b.length:Int)>(a.length:Int)then(b.length:Int)else(a.length:Int))=((max a.length b.length:Nat):Int):=by split <;> omega
   rw[e1,cFZ (by omega),hk,wrap_i64];omega
  have bMB:64<=a.length/\64<=b.length:=by revert c1;split <;> omega
  rw[ek]
  by_cases c2:a.length<=k
  ·rw[aO,gP g0,aE]
  ·rw[aM]
   by_cases c3:b.length<=k
   ·rw[aO,gP g0,aE]
   ·rw[aM,Hi];have k32:32<=k:=by omega
    have w1:i64.wrap (32*(k:Int))=((32*k:Nat):Int):=by rw[wrap_i64];omega
    have w2:i64.wrap (64*(k:Int))=((64*k:Nat):Int):=by rw[wrap_i64];omega
    have bMO:=ha.iA.take k;have bQD:=ha.iA.drop k;have bMN:=hb.iA.take k;have bQC:=hb.iA.drop k;have la0:(a.take k).length=k:=by rw[cBD];omega
    have la1:(a.drop k).length=a.length-k:=cCM;have lb0:(b.take k).length=k:=by rw[cBD];omega
    have lb1:(b.drop k).length=b.length-k:=cCM;have sa:=split ha (k:=k) (by omega);have sb:=split hb (k:=k) (by omega);simp only[w1,w2,cCJ,cER,cFF];have n0:(dg (val (a.take k))).length<=k+1:=by have:=lZ bMO;omega
    have n1:(dg (val (a.drop k))).length<=a.length-k:=by have:=lZ bQD;omega
    have n2:(dg (val (b.take k))).length<=k+1:=by have:=lZ bMN;omega
    have n3:(dg (val (b.drop k))).length<=b.length-k:=by have:=lZ bQC;omega
    have m0:(dg (val (a.take k))).length<=k:=by have:=lZ bMO;omega
    have m2:(dg (val (b.take k))).length<=k:=by have:=lZ bMN;omega
    have r1:a.length-k<=k+1:=by omega
    have r3:b.length-k<=k+1:=by omega
    have r5:5*k+20<=1099511627776:=by omega
    have r6:5*k+20<=4398046511104:=by omega
    have r7:k+1<=1099511627776:=by omega
    have r8:k+2<=1099511627776:=by omega
    have h1:k+k<a.length+b.length:=by omega
    have h2:a.length-k+(b.length-k)<a.length+b.length:=by omega
    have h3:k+2+(k+2)<a.length+b.length:=by omega
    have k1:((32*k:Nat):Int)<=1099511627776:=by omega
    have k2:((64*k:Nat):Int)<=1099511627776:=by omega
    have i1:(0:Int)<=0/\(0:Int)<=(k:Int)/\(k:Int)<=(a.length:Int):=by omega
    have i2:(0:Int)<=(k:Int)/\(k:Int)<=(a.length:Int)/\(a.length:Int)<=(a.length:Int):=by omega
    have i3:(0:Int)<=0/\(0:Int)<=(k:Int)/\(k:Int)<=(b.length:Int):=by omega
    have i4:(0:Int)<=(k:Int)/\(k:Int)<=(b.length:Int)/\(b.length:Int)<=(b.length:Int):=by omega
    have p0:(a.take k).length<=4398046511104:=by omega
    have p1:(a.drop k).length<=4398046511104:=by omega
    have p2:(b.take k).length<=4398046511104:=by omega
    have p3:(b.drop k).length<=4398046511104:=by omega
    obtain⟨s1,s2,t0,t1,t2,t3,t4,t5,t6,t7⟩:=aDR n0 (bZJ n1 r1) n2 (bZJ n3 r3);rw[if_pos i1,gP ⟨bMO,p0⟩,aE,if_pos i2,gP ⟨bQD,p1⟩,aE,if_pos i3,gP ⟨bMN,p2⟩,aE,if_pos i4,gP ⟨bQC,p3⟩,aE];generalize val (a.take k)=x0 at *;generalize val (a.drop k)=x1 at *;generalize val (b.take k)=y0 at *;generalize val (b.drop k)=y1 at *;refine(gP (hc _ _ (bA _) (bA _) (cFA (cMT m0 m2) h1))).trans ?_;rw[aE,bD,bD];refine(gP (hc _ _ (bA _) (bA _) (cFA (cMT n1 n3) h2))).trans ?_;rw[aE,bD,bD];refine(gP ⟨cA _,cA _,bZJ n0 r7,bZJ (bZJ n1 r1) r7⟩).trans ?_;rw[aE];refine(gP ⟨cA _,cA _,bZJ n2 r7,bZJ (bZJ n3 r3) r7⟩).trans ?_;rw[aE];refine(gP (hc _ _ (bA _) (bA _) (cFA (cMT s1 s2) h3))).trans ?_;rw[aE,bD,bD];refine(gP ⟨cA _,cA _,bZJ t0 r5,bZJ t1 r5⟩).trans ?_;rw[aE,bD,bD];refine(gP ⟨bA _,bA _,bZJ t2 r6,bZJ t3 r6⟩).trans ?_;rw[aE,bD,bD];refine(gP ⟨bA _,bZJ t4 r5,k1⟩).trans ?_;rw[aE,bD];refine(gP ⟨bA _,bZJ t1 r5,k2⟩).trans ?_;rw[aE];refine(gP ⟨cA _,cA _,bZJ t5 r5,bZJ t6 r5⟩).trans ?_;rw[aE,bD,bD];refine(gP ⟨cA _,cA _,bZJ t0 r5,bZJ t7 r5⟩).trans ?_;rw[aE,bD];rw[sa,sb,<-aXJ,show 64*k=32*k+32*k by omega,cDP]
theorem fnok:tJ prog E 274 f274 aF:=Yb qP mixed (lT _ rfl (aA Mul.ok (aA Norm.ok (aA Add.ok (aA Sub.ok (aA aQA.ok (aA Zi.Km aD)))))) (oD)) func274 rfl rfl rfl
theorem all(n:Nat)(hn:n<=4294967296):Zi.less (n+1):=by
 induction n with
 |zero =>
  intro a b ha hb hl;refine fn_contract fnok.ty fnok.calls fnok.mix fnok.fnc fnok.body fnok.nt fnok.io (by exact cAL rfl) (eval ha hb (by omega) fun c d _ _ h=>by omega)
 |succ n ih =>
  intro a b ha hb hl;have ih:=ih (by omega);refine fn_contract fnok.ty fnok.calls fnok.mix fnok.fnc fnok.body fnok.nt fnok.io (by exact cAL rfl) (eval ha hb (by omega) fun c d hc hd h=>ih c d hc hd (by omega))
def sp(a b:List Int):Prop×List D:=(cO a/\cO b/\a.length+b.length<=4294967296,[.own kX .u32 (dg (val a*val b))])
theorem spec:fF E f274 aF (pI .u32) (pI .u32) sp:=by
 rintro a b ⟨ha,hb,hN⟩;exact eval ha hb hN fun c d hc hd h=>all (a.length+b.length) hN c d hc hd (by omega)
def aJ:dO:=orc2 (pI .u32) (pI .u32) sp
theorem ok:nR prog base.glob 274 aJ:=fnok.jZ rfl spec
end aON
namespace bAI
def E:=mE [(274,aON.aJ),(140,Mk.aJ),(257,nP.aJ)] 20 [] [] []
def aF:=bd f261
theorem aU:Nk E aF:=nk
theorem start a b d e c:aG E f261 aF [D.agg [sc (bool a),ints u32 b],D.agg [sc (bool d),ints u32 e],D.s (sc (int i64 c))]=aN (cO b/\cO e/\b.length+e.length<=4294967296) (aB (dg (val b*val e)) fun f=>letI B:=zs (a !=d) (val f);aN (bM f/\f.length<=4398046511104) (aB (isNeg B) fun g=>aB (dg B.natAbs) fun h=>letI A:=zv (g,h)/(↑((2:Nat)^c.toNat):Int);aN (dS (g,h)/\(-9223372036854775808:Int)<=c/\c<9223372036854775808) (aB (isNeg A) fun i=>aB (dg A.natAbs) fun j=>some [D.agg [sc (bool i),ints u32 j]]))):=eJ aU
def sp(x y:Bool×List Int)(w:Int):Prop×List D:=(dS x/\dS y/\x.2.length+y.2.length<=4294967296/\-9223372036854775808<=w/\w<9223372036854775808,[zD (zv x*zv y/((2^w.toNat:Nat):Int))])
theorem spec:uQ E f261 aF nT nT (pN .i64) sp:=by
 rintro x y w ⟨hx,hy,hl,h0,h1⟩;refine(start x.1 x.2 y.1 y.2 w).trans ((gP ⟨hx.1,hy.1,hl⟩).trans ?_);have l:=aON.ml (u:=val x.2) (v:=val y.2) (m:=x.2.length) (n:=y.2.length) (Nat.le_of_eq (kY hx.1)) (Nat.le_of_eq (kY hy.1));have e:zs (x.1 !=y.1) (val x.2*val y.2)=zv x*zv y:=by
  unfold zv zs;cases x.1 <;> cases y.1 <;> simp[cEW,cHX,cHI]
 have ea:(zv x*zv y).natAbs=val x.2*val y.2:=by rw[cEC,kQ,kQ]
 rw[aE,gP ⟨cA _,by omega⟩];simp only[aE,bD,e,jD];rw[gP ⟨qA (by rw[ea];omega),h0,h1⟩];rfl
def aJ:dO:=orc3 nT nT (pN .i64) sp
theorem ok:OK 261 aJ:=(eI E aF (aA aON.ok (aA Mk.ok (aA nP.ok aD))) func261).Dn rfl spec
end bAI
namespace nG
def E:=mE [(259,Pe.aJ),(136,Bv.aJ),(140,Mk.aJ),(254,aCJ.aJ),(182,Bu.aJ),(260,aOE.aJ),(261,bAI.aJ),(184,aCD.aJ),(228,pJ.aJ),(183,Bt.aJ),(257,nP.aJ)] 101 [] [(17,[1,2,4,5,7,9,10,11,70,71]),(8,[1,2,4,5,6,7,8,9,10,11,12,13]),(13,[1,2,4,5,6,7,8,9,10,11,12,13])] [13]
def aF:=bd f243
theorem aU:Nk E aF:=nk
def L8 a b c d e f g h i j k l m n o p:=nU E f243 aF 8 [bJ a,bK 1 117 [bC b,iB c],bK 2 117 [bC d,sc (slice none 0 0)],bK 3 117 [bC e,sc (slice none 0 0)],bJ f,bJ g,bK 6 117 [bC h,iB i],bK 7 117 [bC j,iB k],bK 8 117 [bC l,sc (slice none 0 0)],bK 9 117 [bC m,sc (slice none 0 0)],bK 10 117 [bC n,iB o],bJ p]
def Qv a b c d e f g h i j k l m n o p q:=lP E f243 aF 13 [bJ a,bK 1 117 [bC b,iB c],bK 2 117 [bC d,sc (slice none 0 0)],bK 3 117 [bC e,sc (slice none 0 0)],bJ f,bJ g,bK 6 117 [bC h,iB i],bK 7 117 [bC j,iB k],bK 8 117 [bC l,sc (slice none 0 0)],bK 9 117 [bC m,iB n],bK 10 117 [bC o,iB p],bJ q]
def aPB a b c d e f g h i j k l m n o p q:=lP E f243 aF 13 [bJ a,bK 1 117 [bC b,iB c],bK 2 117 [bC d,sc (slice none 0 0)],bK 3 117 [bC e,sc (slice none 0 0)],bJ f,bJ g,bK 6 117 [bC h,iB i],bK 7 117 [bC j,iB k],bK 8 117 [bC l,iB m],bK 9 117 [bC n,sc (slice none 0 0)],bK 10 117 [bC o,iB p],bJ q]
def aVS a b c d e f g h i j k l:=nU E f243 aF 17 [bJ a,bK 1 117 [bC b,iB c],bK 2 117 [bC d,sc (slice none 0 0)],bK 3 117 [bC e,sc (slice none 0 0)],bJ f,bK 5 117 [bC g,iB h],bK 6 117 [bC i,sc (slice none 0 0)],bK 7 117 [bC j,sc (slice none 0 0)],bJ k,bJ l]
def bMX a b c d e f g h i j k l m n o p q:=nU E f243 aF 8 [bJ a,bK 1 117 [bC b,iB c],bK 2 117 [bC d,sc (slice none 0 0)],bK 3 117 [bC e,sc (slice none 0 0)],bJ f,bJ g,bK 6 117 [bC h,iB i],bK 7 117 [bC j,iB k],bK 8 117 [bC l,sc (slice none 0 0)],bK 9 117 [bC m,iB n],bK 10 117 [bC o,iB p],bJ q]
def aOR a b c d e f g h i j k l m n:=nU E f243 aF 17 [bJ a,bK 1 117 [bC b,iB c],bK 2 117 [bC d,sc (slice none 0 0)],bK 3 117 [bC e,sc (slice none 0 0)],bJ f,bK 5 117 [bC g,iB h],bK 6 117 [bC i,iB j],bK 7 117 [bC k,iB l],bJ m,bJ n]
def aPA a b c d e f g h i j k l m n o p q r:=lP E f243 aF 13 [bJ a,bK 1 117 [bC b,iB c],bK 2 117 [bC d,sc (slice none 0 0)],bK 3 117 [bC e,sc (slice none 0 0)],bJ f,bJ g,bK 6 117 [bC h,iB i],bK 7 117 [bC j,iB k],bK 8 117 [bC l,iB m],bK 9 117 [bC n,iB o],bK 10 117 [bC p,iB q],bJ r]
def bNE a b c d e f g h i j k l m:=nU E f243 aF 17 [bJ a,bK 1 117 [bC b,iB c],bK 2 117 [bC d,sc (slice none 0 0)],bK 3 117 [bC e,sc (slice none 0 0)],bJ f,bK 5 117 [bC g,iB h],bK 6 117 [bC i,sc (slice none 0 0)],bK 7 117 [bC j,iB k],bJ l,bJ m]
def bHT a b c d e f g h i j k l m n o p q r:=nU E f243 aF 8 [bJ a,bK 1 117 [bC b,iB c],bK 2 117 [bC d,sc (slice none 0 0)],bK 3 117 [bC e,sc (slice none 0 0)],bJ f,bJ g,bK 6 117 [bC h,iB i],bK 7 117 [bC j,iB k],bK 8 117 [bC l,iB m],bK 9 117 [bC n,iB o],bK 10 117 [bC p,iB q],bJ r]
theorem start a c b:aG E f243 aF [D.agg [sc (bool a),ints u32 c],D.s (sc (int i64 b))]=letI A:=(↑(Pe.bKN b):Int);letI C:=zv (a,c)*(2:Int)^(i64.wrap ((64:Int)+i64.wrap ((3:Int)*A))).toNat;letI B:=i64.wrap (b+64)+i64.wrap ((4:Int)*A);aN (b<=600000) (aN (dS (a,c)/\i64.wrap ((64:Int)+i64.wrap ((3:Int)*A))<=1099511627776) (aB (isNeg C) fun d=>aB (dg C.natAbs) fun e=>aN (i64.wrap B<=1099511627776) (aB (dg ((2:Nat)^(i64.wrap B).toNat)) fun f=>letI F:=zs false (val f);aN (bM f/\f.length<=4398046511104) (nG.L8 b a c false false A (i64.wrap B) d e (isNeg F) (dg F.natAbs) false false (isNeg F) (dg F.natAbs) 0)))):=eJ aU
theorem yM a b c d e f g h i j k l m n o p:L8 a b c d e f g h i j k l m n o p=letI B:=bif p.tmod 4==(3:Int)then zv (l,[])-zv (n,o)else zv (l,[])+zv (n,o);letI A:=bif p.tmod 4==(2:Int)then zv (m,[])-zv (n,o)else zv (m,[])+zv (n,o);aN (dS (n,o)) (aB (cZ (zv (n,o)) 0) fun q=>aC (q !=0) (aC (p.tmod 2==(0:Int)) (aN (dS (m,[])/\dS (n,o)) (aB (isNeg A) fun r=>aB (dg A.natAbs) fun s=>nG.Qv a b c d e f g h i j k l r s n o p)) (aN (dS (l,[])/\dS (n,o)) (aB (isNeg B) fun t=>aB (dg B.natAbs) fun u=>nG.aPB a b c d e f g h i j k t u m n o p))) (nG.aVS a b c d e g j k l m f 0)):=lJ aU
theorem zZ a b c d e f g h i j k l m n o p q:Qv a b c d e f g h i j k l m n o p q=letI B:=(↑(zv (h,i)).natAbs:Int);letI A:=i64.wrap (q+1);aN (dS (h,i)) (aB (isNeg B) fun r=>aB (dg B.natAbs) fun s=>aN (dS (o,p)/\dS (r,s)/\p.length+s.length<=4294967296/\(-9223372036854775808:Int)<=g/\g<9223372036854775808) (aB (dg (zv (o,p)*zv (r,s)/(↑((2:Nat)^g.toNat):Int)).natAbs) fun t=>aN (bM t/\t.length<=1099511627776/\0<u32.wrap A/\u32.wrap A<4294967296) (aB (dg (val t/(u32.wrap A).toNat)) fun u=>aN (bM u/\u.length<=4398046511104) (nG.bMX a b c d e f g h i j k l m n (isNeg (zs false (val u))) (dg (zs false (val u)).natAbs) A)))):=cJ aU
theorem bAJ a b c d e f g h i j k l m n o p q:bMX a b c d e f g h i j k l m n o p q=letI B:=bif q.tmod 4==(2:Int)then zv (m,n)-zv (o,p)else zv (m,n)+zv (o,p);letI A:=bif q.tmod 4==(3:Int)then zv (l,[])-zv (o,p)else zv (l,[])+zv (o,p);aN (dS (o,p)) (aB (cZ (zv (o,p)) 0) fun r=>aC (r !=0) (aC (q.tmod 2==(0:Int)) (aN (dS (m,n)/\dS (o,p)) (aB (isNeg B) fun s=>aB (dg B.natAbs) fun t=>nG.Qv a b c d e f g h i j k l s t o p q)) (aN (dS (l,[])/\dS (o,p)) (aB (isNeg A) fun u=>aB (dg A.natAbs) fun v=>nG.aPA a b c d e f g h i j k u v m n o p q))) (nG.bNE a b c d e g j k l m n f 0)):=lJ aU
theorem aGA a b c d e f g h i j k l m n:aOR a b c d e f g h i j k l m n=letI C:=(↑((2:Nat)^f.toNat):Int);letI G:=zv (i,j)*zv (i,j)/C;letI F:=zv (i,j)*zv (k,l)/C;letI B:=(isNeg (zs b (val j)),dg (zs b (val j)).natAbs);letI A:=(↑((2:Nat)^(i64.wrap (f-a)).toNat):Int);aC (decide (n<m)) (aN (dS (i,j)/\dS (k,l)/\j.length+l.length<=4294967296/\(-9223372036854775808:Int)<=f/\f<9223372036854775808) (aB (isNeg F) fun o=>aB (dg F.natAbs) fun p=>aN (dS (o,p)/\(1:Int)<=(1099511627776:Int)) (aB (isNeg (zv (o,p)*2)) fun q=>aB (dg (zv (o,p)*2).natAbs) fun r=>aN (dS (i,j)/\dS (i,j)/\j.length+j.length<=4294967296/\(-9223372036854775808:Int)<=f/\f<9223372036854775808) (aB (isNeg G) fun s=>aB (dg G.natAbs) fun t=>aN (dS (s,t)/\(1:Int)<=(1099511627776:Int)) (aB (isNeg (zv (s,t)*2)) fun u=>aB (dg (zv (s,t)*2).natAbs) fun v=>letI H:=zv (g,h)-zv (u,v);aN (dS (g,h)/\dS (u,v)) (aB (isNeg H) fun w=>aB (dg H.natAbs) fun x=>nG.aOR a b c d e f g h q r w x m (i64.wrap (n+1)))))))) (aN (bM j/\j.length<=4398046511104) (aN (dS B/\(-9223372036854775808:Int)<=i64.wrap (f-a)/\i64.wrap (f-a)<9223372036854775808) (aB (isNeg (zv B/A)) fun y=>aB (dg (zv B/A).natAbs) fun z=>aN (dS (k,l)/\(-9223372036854775808:Int)<=i64.wrap (f-a)/\i64.wrap (f-a)<9223372036854775808) (aB (isNeg (zv (k,l)/A)) fun aa=>aB (dg (zv (k,l)/A).natAbs) fun ab=>some [D.agg [sc (bool y),ints u32 z],D.agg [sc (bool aa),ints u32 ab]])))):=lJ aU
theorem aTU a b c d e f g h i j k l m n o p q r:aPA a b c d e f g h i j k l m n o p q r=letI B:=(↑(zv (h,i)).natAbs:Int);letI A:=i64.wrap (r+1);aN (dS (h,i)) (aB (isNeg B) fun s=>aB (dg B.natAbs) fun t=>aN (dS (p,q)/\dS (s,t)/\q.length+t.length<=4294967296/\(-9223372036854775808:Int)<=g/\g<9223372036854775808) (aB (dg (zv (p,q)*zv (s,t)/(↑((2:Nat)^g.toNat):Int)).natAbs) fun u=>aN (bM u/\u.length<=1099511627776/\0<u32.wrap A/\u32.wrap A<4294967296) (aB (dg (val u/(u32.wrap A).toNat)) fun v=>aN (bM v/\v.length<=4398046511104) (nG.bHT a b c d e f g h i j k l m n o (isNeg (zs false (val v))) (dg (zs false (val v)).natAbs) A)))):=cJ aU
theorem aOO a b c d e f g h i j k l m n o p q r:bHT a b c d e f g h i j k l m n o p q r=letI B:=bif r.tmod 4==(3:Int)then zv (l,m)-zv (p,q)else zv (l,m)+zv (p,q);letI A:=bif r.tmod 4==(2:Int)then zv (n,o)-zv (p,q)else zv (n,o)+zv (p,q);aN (dS (p,q)) (aB (cZ (zv (p,q)) 0) fun s=>aC (s !=0) (aC (r.tmod 2==(0:Int)) (aN (dS (n,o)/\dS (p,q)) (aB (isNeg A) fun t=>aB (dg A.natAbs) fun u=>nG.aPA a b c d e f g h i j k l m t u p q r)) (aN (dS (l,m)/\dS (p,q)) (aB (isNeg B) fun v=>aB (dg B.natAbs) fun w=>nG.aPA a b c d e f g h i j k v w n o p q r))) (nG.aOR a b c d e g j k l m n o f 0)):=lJ aU
def sp(x:Bool×List Int)(q:Int):Prop×List D:=(dS x/\zv x≠0/\(0<=q/\q<=140000)/\(zv x).natAbs<=2^q.toNat,[zD (Ec (zv x) q.toNat),zD (Et (zv x) q.toNat)])
theorem nD{n k:Nat}(h:bl n<=k)(hk:k<=17179869184):dS (isNeg (n:Int),dg n):=by
 have:=eA (z:=(n:Int)) (k:=k) (by rw[cED];exact h) hk;rwa [cED]at this
theorem uF(n:Nat):zv (isNeg (n:Int),dg n)=(n:Int):=by
 have:=jD (n:Int);rwa [cED]at this
theorem aVV(n:Nat):zs false n=(n:Int):=rfl
theorem Uq{n:Nat}:(cZ (n:Int) 0 !=0)=decide (n≠0):=by
 unfold cZ
 by_cases h:n=0
 ·subst h;rfl
 ·rw[bI,aR,dqT h];rfl
theorem kG{n w:Nat}(h:n<=2^w):bl n<=w+1:=eF.2 (cFA h (cFE (by decide) (cMD w)))
def res(y1:Bool)(S C:Nat)(w q:Nat):Option (List D):=some [zD (zs y1 S/((2^(w-q):Nat):Int)),zD ((C:Int)/((2^(w-q):Nat):Int))]
theorem rT{a b w:Nat}:((a:Int)*(b:Int))/((2^w:Nat):Int)=((a*b/2^w:Nat):Int):=by rw[<-cEW,<-cEA]
theorem aJD{a:Nat}:(a:Int)*2=((2*a:Nat):Int):=by omega
theorem aRI{a b:Nat}(h:b<=a):(a:Int)-(b:Int)=((a-b:Nat):Int):=by omega
theorem D{q w h S0 C0:Nat}{y1 b3 b4:Bool}{y2:List Int}(hw:w<=150000)(hq:q<=w)(hh:h<=500)(pos:∀j,1<=j->j<=h->0<(R.qD (2^w) j S0 C0).2):∀(d j s c:Nat),j+d=h->R.qD (2^w) j S0 C0=(s,c)->(j=0->bl s<=w+20)->bl s<=w+42+j->(1<=j->c<=2^w)->bl c<=w+20 ->
  aOR q y1 y2 b3 b4 w (isNeg ((2^w:Nat):Int)) (dg (2^w)) (isNeg (s:Int)) (dg s) (isNeg (c:Int)) (dg c) h j=res y1 (R.qD (2^w) h S0 C0).1 (R.qD (2^w) h S0 C0).2 w q:=by
 intro d
 induction d with
 |zero =>
  intro j s c hj he _ hs _ hc;have ej:j=h:=by omega
  have ks:=nD hs (by omega);have kc:=nD hc (by omega);have ls:=fJ hs;have wq:i64.wrap ((w:Int)-(q:Int))=((w-q:Nat):Int):=by rw[wrap_i64];omega
  have kz:dS (isNeg (zs y1 s),dg (zs y1 s).natAbs):=eA (by rw[nM];exact hs) (by omega);rw[aGA,aM];simp only[wq,bD,cCJ,aE,jD,uF];rw[gP ⟨cA _,by omega⟩,gP ⟨kz,by omega,by omega⟩,gP ⟨kc,by omega,by omega⟩,<-ej,he];rfl
 |succ d ih =>
  intro j s c hj he h0 hs bVO hc;have ks:=nD hs (by omega);have kc:=nD hc (by omega);have ls:=fJ hs;have lc:=fJ hc;have w1:i64.wrap ((j:Int)+1)=((j+1:Nat):Int):=by rw[wrap_i64];omega
  have back:=R.Ym (2^w) j S0 C0;rw[he]at back;dsimp only at back;have hp:=pos (j+1) (by omega) (by omega);rw[back]at hp;dsimp only at hp;have le:2*(s*s/2^w)<=2^w:=by omega
  have W0:0<2^w:=cBM (by decide);have b1:bl (s*c/2^w)<=w+42+j:=by
   by_cases j0:j=0
   ·refine eF.2 (cEF ?_);rw[<-cDP];refine bZN (wX _) (cBN (by decide) ?_);have:=mK s c;have:=h0 j0;omega
   ·have:s*c/2^w<=s:=cKT (by rw[cDM (2^w)];exact cBB _ (bVO (by omega)));exact bZJ (gD this) hs
  have bXR:bl (2*(s*c/2^w))<=w+42+(j+1):=by
   have h1:=eF.1 b1;refine eF.2 ?_;rw[<-cCD,cDL];omega
  have bQJ:bl (2*(s*s/2^w))<=w+1:=kG le;have b2:bl (s*s/2^w)<=w+1:=bZJ (gD (by omega)) bQJ;have bXQ:bl (2^w-2*(s*s/2^w))<=w+20:=bZJ (kG (cEV _ _)) (by omega);have kw:=nD (n:=2^w) (k:=w+1) (kG (bYN _)) (by omega);rw[aGA,aO];simp only[aE,uF,cCJ,rT,cED,aJD,w1,aRI le];rw[gP ⟨ks,kc,by omega,by omega,by omega⟩,gP ⟨nD b1 (by omega),by decide⟩,gP ⟨ks,ks,by omega,by omega,by omega⟩,gP ⟨nD b2 (by omega),by decide⟩,gP ⟨kw,nD bQJ (by omega)⟩];exact ih (j+1) _ _ (by omega) back (fun h=>by omega) bXR (fun _=>cEV _ _) bXQ
theorem aIY{k:Nat}(hk:k<=200000):i64.wrap ((k:Int)+1)=((k+1:Nat):Int)/\u32.wrap ((k+1:Nat):Int)=((k+1:Nat):Int):=⟨by rw[wrap_i64];omega,oN (by omega)⟩
theorem aDK{u w k:Nat}:R.sq u (2^w) k*u/2^w/(k+1)=R.sq u (2^w) (k+1):=rfl
theorem aRL(k:Nat):((k:Int).tmod 2==0)=decide (k%2=0):=by
 rw[cGA (by omega)]
 by_cases h:k%2=0
 ·rw[dqT h];exact beq_iff_eq.2 (by omega)
 ·rw[dqF h];exact beq_eq_false_iff_ne.2 (by omega)
theorem Xf(k:Nat)(m:Nat):((k:Int).tmod 4==(m:Int))=(k%4==m):=by
 rw[cGA (by omega)]
 by_cases h:k%4=m
 ·rw[show(k%4==m)=true from beq_iff_eq.2 h];exact beq_iff_eq.2 (by omega)
 ·rw[show(k%4==m)=false from beq_eq_false_iff_ne.2 h];exact beq_eq_false_iff_ne.2 (by omega)
theorem bAA{q h w k:Nat}{y1 b3 b4 o1 s1 c1:Bool}{y2 o2 s2 c2:List Int}{a:Int}(hw:w<=150000)(ha:a.natAbs<=2^w)(hk:k<=200000) :
  aPA q y1 y2 b3 b4 h w (isNeg a) (dg a.natAbs) o1 o2 s1 s2 c1 c2 (isNeg ((R.sq a.natAbs (2^w) k:Nat):Int)) (dg (R.sq a.natAbs (2^w) k)) k =
  bHT q y1 y2 b3 b4 h w (isNeg a) (dg a.natAbs) o1 o2 s1 s2 c1 c2 (isNeg ((R.sq a.natAbs (2^w) (k+1):Nat):Int)) (dg (R.sq a.natAbs (2^w) (k+1))) (k+1:Nat):=by
 have ht:=TSums.xT ha k;have bGY:=TSums.xT ha (k+1);have bt:=kG ht;have ba:=kG ha;have lt:=fJ bt;have la:=fJ ba;obtain⟨w1,w2⟩:=aIY hk;have hd:R.sq a.natAbs (2^w) k*a.natAbs/2^w<=2^w:=by
  refine bZJ (cKT ?_) ht;rw[cDM (2^w)];exact cBB _ ha
 have ld:=fJ (kG hd);have ln:=fJ (kG bGY);rw[aTU];simp only[aE,uF,jD,cCJ,rT,cED,bD,w1,w2,aVV,aDK];rw[gP (eA ba (by omega)),gP ⟨nD bt (by omega),nD ba (by omega),by omega,by omega,by omega⟩,gP ⟨cA _,by omega,by omega,by omega⟩,gP ⟨cA _,by omega⟩]
theorem bYE{q h w k:Nat}{y1 b3 b4 o1 s1 c1:Bool}{y2 o2 c2:List Int}{a:Int}(hw:w<=150000)(ha:a.natAbs<=2^w)(hk:k<=200000) :
  Qv q y1 y2 b3 b4 h w (isNeg a) (dg a.natAbs) o1 o2 s1 c1 c2 (isNeg ((R.sq a.natAbs (2^w) k:Nat):Int)) (dg (R.sq a.natAbs (2^w) k)) k =
  bMX q y1 y2 b3 b4 h w (isNeg a) (dg a.natAbs) o1 o2 s1 c1 c2 (isNeg ((R.sq a.natAbs (2^w) (k+1):Nat):Int)) (dg (R.sq a.natAbs (2^w) (k+1))) (k+1:Nat):=by
 have ht:=TSums.xT ha k;have bGY:=TSums.xT ha (k+1);have bt:=kG ht;have ba:=kG ha;have lt:=fJ bt;have la:=fJ ba;obtain⟨w1,w2⟩:=aIY hk;have hd:R.sq a.natAbs (2^w) k*a.natAbs/2^w<=2^w:=by
  refine bZJ (cKT ?_) ht;rw[cDM (2^w)];exact cBB _ ha
 have ld:=fJ (kG hd);have ln:=fJ (kG bGY);rw[zZ];simp only[aE,uF,jD,cCJ,rT,cED,bD,w1,w2,aVV,aDK];rw[gP (eA ba (by omega)),gP ⟨nD bt (by omega),nD ba (by omega),by omega,by omega,by omega⟩,gP ⟨cA _,by omega,by omega,by omega⟩,gP ⟨cA _,by omega⟩]
theorem aJV{u w k:Nat}(hu:u<=2^w)(hk:k<=200000):bl (R.zsum u (2^w) k).1.natAbs<=w+19/\bl (R.zsum u (2^w) k).2.natAbs<=w+19:=by
 obtain⟨h1,h2⟩:=R.Vy hu k;have hb:k*2^w<=2^(w+18):=by
  rw[cDP,cDM];exact cBB _ (by have:(2:Nat)^18=262144:=rfl;omega)
 exact⟨kG (bZJ h1 hb),kG (bZJ h2 hb)⟩
theorem Lp{q h w:Nat}{y1 b3 b4:Bool}{y2:List Int}{a:Int}(hw:w<=150000)(hq:q<=w)(hh:h<=500)(h1:1<=h)(ha:2^h*a.natAbs<=2^w)(bJK:4*h+50<=w):∀f k:Nat,k+f=w+1 ->
  bHT q y1 y2 b3 b4 h w (isNeg a) (dg a.natAbs) (isNeg ((2^w:Nat):Int)) (dg (2^w)) (isNeg (R.zsum a.natAbs (2^w) k).2) (dg (R.zsum a.natAbs (2^w) k).2.natAbs) (isNeg (R.zsum a.natAbs (2^w) k).1) (dg (R.zsum a.natAbs (2^w) k).1.natAbs) (isNeg ((R.sq a.natAbs (2^w) k:Nat):Int)) (dg (R.sq a.natAbs (2^w) k)) k =
  res y1 (R.qD (2^w) h (TSums.xR a.natAbs w) (TSums.xS a.natAbs w)).1 (R.qD (2^w) h (TSums.xR a.natAbs w) (TSums.xS a.natAbs w)).2 w q:=by
 have h2:2<=2^h:=cBN (n:=2) (by decide) h1;have aYX:2*a.natAbs<=2^w:=bZJ (cAA _ h2) ha;have Rm:a.natAbs<=2^w:=by omega
 have fin:∀k,k<=w+1->R.sq a.natAbs (2^w) k=0->aOR q y1 y2 b3 b4 w (isNeg ((2^w:Nat):Int)) (dg (2^w)) (isNeg (R.zsum a.natAbs (2^w) k).2) (dg (R.zsum a.natAbs (2^w) k).2.natAbs) (isNeg (R.zsum a.natAbs (2^w) k).1) (dg (R.zsum a.natAbs (2^w) k).1.natAbs) h 0=res y1 (R.qD (2^w) h (TSums.xR a.natAbs w) (TSums.xS a.natAbs w)).1 (R.qD (2^w) h (TSums.xR a.natAbs w) (TSums.xS a.natAbs w)).2 w q:=by
  intro k hk hz;obtain⟨c1,c2⟩:=aJV (k:=k) Rm (by omega);rw[R.aIU Rm hk hz]at c1 c2 ⊢;dsimp only at c1 c2 ⊢;rw[cED]at c1 c2;rw[cED,cED];exact D hw hq hh (fun j a1 a2=>R.aSY ha bJK (by omega) a1 a2) h 0 _ _ (by omega) rfl (fun _=>by omega) (by omega) (fun h=>by omega) (by omega)
 intro f
 induction f with
 |zero =>
  intro k hk;have hz:R.sq a.natAbs (2^w) k=0:=by rw[show k=w+1 by omega];exact R.Sn aYX
  have r:=fin k (by omega) hz;have k0:=nD (n:=R.sq a.natAbs (2^w) k) (k:=0) (by rw[hz];exact bYN _) (by omega);rw[aOO,gP k0,aE,uF,Uq,hz,dqF (fun h=>h rfl),bF];exact r
 |succ f ih =>
  intro k hk;have bt:=kG (TSums.xT Rm k);have kt:=nD bt (by omega);obtain⟨c1,c2⟩:=aJV (k:=k) Rm (by omega);have kc:=eA c1 (by omega);have ks:=eA c2 (by omega);rw[aOO,gP kt,aE,uF,Uq]
  by_cases hz:R.sq a.natAbs (2^w) k=0
  ·rw[dqF (fun h=>h hz),bF];exact fin k (by omega) hz
  ·have i:=ih (k+1) (by omega);rw[R.Hl]at i;rw[dqT hz,bT,aRL];have m2:=Xf k 2;have m3:=Xf k 3
   by_cases hp:k%2=0
   ·rw[if_pos hp]at i;dsimp only at i;rw[dqT hp,bT,gP ⟨kc,kt⟩];simp only[aE,jD,uF];rw[show((k:Int).tmod 4==2)=(k%4==2)from m2,bAA hw Rm (by omega)];exact i
   ·rw[if_neg hp]at i;dsimp only at i;rw[dqF hp,bF,gP ⟨ks,kt⟩];simp only[aE,jD,uF];rw[show((k:Int).tmod 4==3)=(k%4==3)from m3,bAA hw Rm (by omega)];exact i
theorem spec:fF E f243 aF nT (pN .i64) sp:=by
 rintro x q ⟨hx,x0,⟨q0,q1⟩,hy⟩;obtain⟨q,rfl⟩:=cDO q0;rw[cCJ]at hy;refine(start x.1 x.2 q).trans ?_;obtain⟨a1,a2⟩:=aVN q;have eh:Pe.bKN (q:Int)=h7 q:=rfl;have aGS:zv (x.1,x.2)=zv x:=rfl;have e1:i64.wrap (64+i64.wrap (3*((h7 q:Nat):Int)))=((64+3*h7 q:Nat):Int):=by rw[wrap_i64 (n:=3*((h7 q:Nat):Int)),wrap_i64];omega
 have e2:i64.wrap (i64.wrap ((q:Int)+64)+i64.wrap (4*((h7 q:Nat):Int)))=((w7 q:Nat):Int):=by
  rw[wrap_i64 (n:=(q:Int)+64),wrap_i64 (n:=4*((h7 q:Nat):Int)),wrap_i64];unfold w7;omega
 have hw:w7 q<=150000:=by unfold w7;omega
 have hq:q<=w7 q:=by unfold w7;omega
 have bJK:4*h7 q+50<=w7 q:=by unfold w7;omega
 obtain⟨a,ha⟩:∃a:Int,a=zv x*2^(64+3*h7 q):=⟨_,rfl⟩;have aa:a.natAbs=u7 (zv x) q:=by rw[ha,cEC,cMQ];rfl
 have hu:=aUA hy;rw[<-aa]at hu;have h2:1<=2^h7 q:=cBM (by decide);have Rm:a.natAbs<=2^w7 q:=by
  have:=cAA a.natAbs h2;omega
 have a0:a.natAbs≠0:=by
  rw[aa];unfold u7;exact Nat.ne_of_gt (Nat.mul_pos (by omega) (cBM (by decide)))
 have lw:=fJ (kG (bYN (2^w7 q)));simp only[aGS,eh,e1,e2,cCJ,aE,bD,aVV,cED];rw[<-ha,gP,gP ⟨hx,by omega⟩,gP,gP ⟨cA _,by omega⟩];have kw:=nD (kG (bYN (2^w7 q))) (by omega);have z0:zv (false,[])=0:=rfl;have k0:dS (false,[]):=⟨Gc,(fun h=>absurd (show false=true from h) (by decide)),cEN _⟩;have s0:R.sq a.natAbs (2^w7 q) 0=2^w7 q:=rfl;have s1:R.sq a.natAbs (2^w7 q) 1=a.natAbs:=by
  show 2^w7 q*a.natAbs/2^w7 q/1=_;rw[cKC,Nat.mul_div_cancel_left _ (cBM (by decide))]
 have p0:2^w7 q≠0:=Nat.ne_of_gt (cBM (by decide));have zero:(0:Int)=((0:Nat):Int):=rfl;have r0:=bYE (q:=q) (h:=h7 q) (w:=w7 q) (k:=0) (y1:=x.1) (b3:=false) (b4:=false) (o1:=isNeg ((2^w7 q:Nat):Int)) (s1:=false) (c1:=isNeg ((2^w7 q:Nat):Int)) (y2:=x.2) (o2:=dg (2^w7 q)) (c2:=dg (2^w7 q)) hw Rm (by omega);rw[s0]at r0;have ka:dS (isNeg (a.natAbs:Int),dg a.natAbs):=nD (kG Rm) (by omega);have fin:=Lp (q:=q) (h:=h7 q) (w:=w7 q) (y1:=x.1) (b3:=false) (b4:=false) (y2:=x.2) (a:=a) hw hq (by omega) (by omega) hu bJK (w7 q-1) 2 (by omega);have bQW:R.zsum a.natAbs (2^w7 q) 2=(((2^w7 q:Nat):Int),(a.natAbs:Int)):=by
  show(_,_)=(_,_);simp[R.zsum,s0,s1]
 rw[bQW]at fin;dsimp only at fin;rw[cED,cED]at fin;rw[yM,gP kw,aE,uF,Uq,dqT p0,bT];rw[show((0:Int).tmod 2==0)=true from rfl,bT,gP ⟨k0,kw⟩];simp only[aE,uF,z0,show((0:Int).tmod 4==2)=false from rfl,cond_false,Int.zero_add,cED];refine Eq.trans r0 ?_;rw[show 0+1=1 from rfl,s1,bAJ,gP ka,aE,uF,Uq,dqT a0,bT];rw[show(((1:Nat):Int).tmod 2==0)=false from rfl,bF,gP ⟨k0,ka⟩];simp only[aE,uF,z0,show(((1:Nat):Int).tmod 4==3)=false from rfl,cond_false,Int.zero_add,cED];have r1:=bAA (q:=q) (h:=h7 q) (w:=w7 q) (k:=1) (y1:=x.1) (b3:=false) (b4:=false) (o1:=isNeg ((2^w7 q:Nat):Int)) (s1:=isNeg (a.natAbs:Int)) (c1:=isNeg ((2^w7 q:Nat):Int)) (y2:=x.2) (o2:=dg (2^w7 q)) (s2:=dg a.natAbs) (c2:=dg (2^w7 q)) hw Rm (by omega);rw[s1]at r1;refine Eq.trans r1 (Eq.trans fin ?_);unfold sp Ec Et aUG res;rw[cCJ,<-aa];have en:zs x.1 (R.qD (2^w7 q) (h7 q) (TSums.xR a.natAbs (w7 q)) (TSums.xS a.natAbs (w7 q))).1=zs (isNeg (zv x)) (R.qD (2^w7 q) (h7 q) (TSums.xR a.natAbs (w7 q)) (TSums.xS a.natAbs (w7 q))).1:=by rw[hx.cells.1]
 rw[en]
def aJ:dO:=orc2 nT (pN .i64) sp
theorem ok:OK 243 aJ:=(eI E aF (aA Pe.ok (aA Bv.ok (aA Mk.ok (aA aCJ.ok (aA Bu.ok (aA aOE.ok (aA bAI.ok (aA aCD.ok (aA pJ.ok (aA Bt.ok (aA nP.ok aD))))))))))) func243).jZ rfl spec
end nG
namespace To
def E:=mE [(134,Norm.aJ)] 44 [] [(4,[3,4,5])] []
def aF:=bd f179
theorem aU:Nk E aF:=nk
def L4 a (b:Nat) (c:List Int) d:=nU E f179 aF 4 [mP a,Dg 1 b 22 c,bJ d]
theorem start a:aG E f179 aF [D.s (ints u32 a)]=letI A:=i64.wrap ((↑(dg (val a)).length:Int).tdiv 2)+1;aN (bM a/\a.length<=4398046511104) (if(0:Int)<=(0:Int)/\0<=i64.wrap A/\i64.wrap A<=8796093022208 then To.L4 (dg (val a)) 0 (cAQ 0 (0:Int)) 0 else none):=eJ aU
theorem mG a b c d:L4 a b c d=letI C:=(a.length:Int);letI B:=a.getD d.toNat 0;letI G:=c.length+[u64.wrap B].length;letI A:=u64.wrap B+u64.wrap (u64.wrap (a.getD (i64.wrap (d+1)).toNat 0)*4294967296);letI F:=c.length+[u64.wrap A].length;aC (decide (d<C)) (if 0<=d/\d<C then aC (decide (i64.wrap (d+1)<C)) (if 0<=i64.wrap (d+1)/\i64.wrap (d+1)<C then if(0:Nat)<[u64.wrap A].length/\(F:Int)<=(8796093022208:Int)then To.L4 a F (c ++ [u64.wrap A]) (i64.wrap (d+2))else none else none) (if(0:Nat)<[u64.wrap B].length/\(G:Int)<=(8796093022208:Int)then To.L4 a G (c ++ [u64.wrap B]) (i64.wrap (d+2))else none)else none) (some [D.own 22 u64 c]):=lJ aU
theorem L{d:List Int}(hd:cO d)(hl:d.length<=4398046511104):∀(k i:Nat) (xs:List Int),i+k>=d.length->i<=d.length+1->xs.length<=i ->
  L4 d xs.length xs i=some [D.own gV .u64 (xs ++ M6.dg (val (d.drop i)))]:=by
 intro k
 induction k using Nat.strongRecOn with
 |_ k ih =>
  intro i xs hk hi Dp;rw[mG]
  by_cases h:i<d.length
  ·have g0:=hd.iA.get i;have g1:=hd.iA.get (i+1);have e':((i:Int)).toNat=i:=cCJ i;have e1:((i:Int)+1).toNat=i+1:=by omega
   have hz:val (d.drop i)≠0:=by
    intro h0;have hn:cO (d.drop i):=Bb (hd.iA.drop i) fun e he=>hd.top (by
     rw[List.getLast?_drop]at he;rw[bI]at he;exact he)
    have:=(cY hn).2 h0;rw[cCM]at this;omega
   have ev:=gH (a:=d) i;have ev1:val (d.drop (i+1))=(d.getD (i+1) 0).toNat+4294967296*val (d.drop (i+2)):=gH (i+1);have key:M6.dg (val (d.drop i))=(d.getD i 0+d.getD (i+1) 0*4294967296) :: M6.dg (val (d.drop (i+2))):=by
    rw[M6.oY hz];congr 1
    ·omega
    ·congr 1;omega
   rw[aO,aR,e',wrap_i64 (n:=(i:Int)+1),wrap_i64 (n:=(i:Int)+2),e1,wrap_u64 (n:=d.getD i 0),wrap_u64 (n:=d.getD (i+1) 0),
    wrap_u64 (n:=d.getD (i+1) 0*4294967296),wrap_u64]
   by_cases h1:i+1<d.length
   ·rw[aO,aR,if_pos ⟨by simp,by simp;omega⟩];have:=ih (k-2) (by omega) (i+2) (xs ++ [d.getD i 0+d.getD (i+1) 0*4294967296]) (by omega) (by omega) (by simp;omega);simp only[bZQ,cBX,cBY]at this ⊢;rw[show((i:Int)+2)=((i+2:Nat):Int)from by omega,this,key,cAI];rfl
   ·have bHJ:d.getD (i+1) 0=0:=getD_none (by omega);rw[aM,if_pos ⟨by simp,by simp;omega⟩];have:=ih (k-1) (by omega) (i+2) (xs ++ [d.getD i 0]) (by omega) (by omega) (by simp;omega);simp only[bZQ,cBX,cBY]at this ⊢;rw[show((i:Int)+2)=((i+2:Nat):Int)from by omega,this,key,bHJ,Int.zero_mul,cJV,cAI];rfl
  ·rw[aM,List.drop_eq_nil_of_le (by omega)];simp[val,M6.cL]
def sp(a:List Int):Prop×List D:=(bM a/\a.length<=1099511627776,[.own gV .u64 (M6.dg (val a))])
theorem spec:iH E f179 aF (pI .u32) sp:=by
 rintro a ⟨ha,h1⟩;refine(start a).trans ?_;have:=lZ ha;rw[gP ⟨ha,by omega⟩,cFZ (by omega),wrap_i64 (n:=((dg (val a)).length:Int)/2) (by omega) (by omega),wrap_i64,if_pos ⟨by omega,by omega,by omega⟩];have:=L (bA (val a)) (by omega) (dg (val a)).length 0 [] (by omega) (by omega) (by simp);simp only[cBY,cER,List.nil_append,bD]at this;exact this
def aJ:dO:=orc1 (pI .u32) sp
theorem ok:OK 179 aJ:=(eI E aF (aA Norm.ok aD) func179).oV rfl spec
end To
namespace Fits
def E:=mE [(179,To.aJ)] 16 [] [] []
def aF:=bd f263
theorem aU:Nk E aF:=nk
theorem start a:aG E f263 aF [D.s (ints u32 a)]=letI A:=(↑(M6.dg (val a)).length:Int);aN (bM a/\a.length<=1099511627776) (aC (A==(0:Int)) (some [D.s (sc (int u64 0)),D.s (sc (bool true))]) (aC (A==(1:Int)) (if(0:Int)<=(0:Int)/\0<A then some [D.s (sc (int u64 ((M6.dg (val a)).getD 0 0))),D.s (sc (bool true))]else none) (some [D.s (sc (int u64 0)),D.s (sc (bool false))]))):=eJ aU
def sp(a:List Int):Prop×List D:=(bM a/\a.length<=1099511627776,[.s (.sc (.int .u64 ((if val a<18446744073709551616 then val a else 0:Nat):Int))),.s (.sc (.bool (decide (val a<18446744073709551616))))])
theorem spec:iH E f263 aF (pI .u32) sp:=by
 intro a h;refine(start a).trans ?_;refine(gP h).trans ?_;unfold sp;simp only
 by_cases h0:val a=0
 ·rw[h0,M6.cL];rfl
 ·by_cases h1:val a<18446744073709551616
  ·rw[if_pos h1,dqT h1,M6.oY h0,cIT h1,cEI h1,M6.cL];rfl
  ·rw[if_neg h1,dqF h1];have hl:1<(M6.dg (val a)).length:=by
    rw[M6.oY h0,cBX];have:(M6.dg (val a/18446744073709551616)).length≠0:=fun hh=>by have:=M6.fZ.1 hh;omega
    omega
   rw[cP,cP];rfl
def aJ:dO:=orc1 (pI .u32) sp
theorem ok:OK 263 aJ:=(eI E aF (aA To.ok aD) func263).oV rfl spec
end Fits
namespace aHY
def E:=mE [(263,Fits.aJ)] 33 [] [] []
def aF:=bd f245
theorem aU:Nk E aF:=nk
theorem start a b:aG E f245 aF [D.agg [sc (bool a),ints u32 b]]=letI F:=sc (bool true);letI C:=some [D.s (sc (int i64 0)),D.s (sc (bool false))];letI B:=(↑(if val b<18446744073709551616 then val b else(0:Nat)):Int);letI A:=aC (decide (9223372036854775808<=B)) C (aC a (some [D.s (sc (int i64 (i64.wrap ((0:Int)-i64.wrap B)))),D.s F]) (some [D.s (sc (int i64 (i64.wrap B))),D.s F]));aN (bM b/\b.length<=1099511627776) (aC (!decide (val b<18446744073709551616)) C (aC a (aC (B==(9223372036854775808:Int)) (some [D.s (sc (int i64 (-9223372036854775808:Int))),D.s F]) A) A)):=eJ aU
def aPN(z:Int):Bool:=decide (-9223372036854775808<=z)&&decide (z<9223372036854775808)
def sp(x:Bool×List Int):Prop×List D:=(dS x,[.s (.sc (.int .i64 (bif aPN (zv x)then zv x else 0))),.s (.sc (.bool (aPN (zv x))))])
theorem spec:iH E f245 aF nT sp:=by
 intro x h;have h:dS x:=h;have l:=h.len;refine(start x.1 x.2).trans ((gP ⟨h.1.iA,by omega⟩).trans ?_);have yes:∀z:Int,-9223372036854775808<=z->z<9223372036854775808->aPN z=true:=fun z h h'=>by unfold aPN;rw[dqT h,dqT h'];rfl
 have no:∀z:Int,(z < -9223372036854775808\/9223372036854775808<=z)->aPN z=false:=fun z h=>by
  unfold aPN;rcases h with h |h
  ·rw[dqF (by omega),cDW]
  ·rw[dqF (show ¬z<_ by omega),cDY]
 unfold sp
 try dsimp only
 obtain⟨b,a⟩:=x
 try dsimp only at *
 by_cases h1:val a<18446744073709551616
 ·rw[dqT h1,if_pos h1,cAN,bF];cases b with
  |true =>
   have hz:zv (true,a)=-(val a:Int):=rfl;rw[bT,bT]
   by_cases h2:(val a:Int)=9223372036854775808
   ·rw[dU h2,yes _ (by omega) (by omega),hz,h2];rfl
   ·rw[cP h2]
    by_cases h3:(9223372036854775808:Int)<=val a
    ·rw[aO h3,no _ (by omega)];rfl
    ·rw[aM h3,wrap_i64 (n:=(val a:Int)),wrap_i64 (n:=0-(val a:Int)),yes _ (by omega) (by omega),hz,Int.zero_sub];rfl
  |false =>
   have hz:zv (false,a)=(val a:Int):=rfl;rw[bF,bF]
   by_cases h3:(9223372036854775808:Int)<=val a
   ·rw[aO h3,no _ (by omega)];rfl
   ·rw[aM h3,wrap_i64 (n:=(val a:Int)),yes _ (by omega) (by omega),hz];rfl
 ·rw[dqF h1,cKD,bT];have:aPN (zv (b,a))=false:=by
   refine no _ ?_;have:=kQ (b,a)
   try dsimp only at this
   omega
  rw[this];rfl
def aJ:dO:=orc1 nT sp
theorem ok:OK 245 aJ:=(eI E aF (aA Fits.ok aD) func245).oV rfl spec
end aHY
namespace uV
def E:=mE [(84,Fg.aJ),(242,Sa.aJ),(243,nG.aJ),(244,aZY.aJ),(89,aCC.aJ),(245,aHY.aJ),(216,Jb.aJ),(246,vO.aJ),(138,kO.aJ),(247,gY.aJ)] 89 [] [(9,[0,2,3,5,8,10,13,14,57,58]),(4,[0,2,3,5,8,10])] []
def aF:=bd f218
theorem aU:Nk E aF:=nk
def L4 a b c d e f g h i:=nU E f218 aF 4 [bJ a,bJ b,bJ c,bK 3 117 [bC d,iB e],bK 4 161 [bC f,sc (slice none 0 0),bC g,sc (slice none 0 0),cV h],bJ i]
def L9 a b c d e f g h i j k l m n o:=nU E f218 aF 9 [bJ a,bJ b,bJ c,bK 3 117 [bC d,iB e],bK 4 161 [bC f,sc (slice none 0 0),bC g,sc (slice none 0 0),cV h],bJ i,bK 6 117 [bC j,iB k],bK 7 117 [bC l,iB m],bJ n,bJ o]
theorem start a b e c d:aG E f218 aF [D.s (sc (int i64 a)),D.agg [sc (bool b),ints u32 e],D.s (sc (int i64 c)),D.s (sc (int i64 d))]=letI A:=(↑(bl (val e)):Int);aN (cO e/\e.length<=4398046511104) (uV.L4 a c d b e false false 0 (i64.wrap (i64.wrap (d+80)+if i64.wrap ((0:Int)-i64.wrap (A+c))>(0:Int)then i64.wrap ((0:Int)-i64.wrap (A+c))else(0:Int)))):=eJ aU
theorem mG a b c d e f g h i:L4 a b c d e f g h i=letI A:=zv (d,e);aN (dS (d,e)/\bl A.natAbs<=64/\((-1200:Int)<=b/\b<=1000)/\1<=i/\i<=134700) (aB (isNeg (k7 A b i)) fun j=>aB (dg (k7 A b i).natAbs) fun k=>letI C:=zv (j,k)%zv (isNeg 4,dg 4);aB (isNeg (y7 A b i)) fun m=>aB (dg (y7 A b i).natAbs) fun n=>letI B:=zv (m,n);aN (dS (m,n)/\zv (m,n)≠0/\(0<=i/\i<=140000)/\B.natAbs<=(2:Nat)^i.toNat) (aB (isNeg (Ec B i.toNat)) fun o=>aB (dg (Ec B i.toNat).natAbs) fun p=>aB (isNeg (Et B i.toNat)) fun q=>aB (dg (Et B i.toNat).natAbs) fun l=>aN ((-9223372036854775808:Int)<=(4:Int)/\(4:Int)<(9223372036854775808:Int)) (aN (dS (j,k)/\k.length<=268435456/\dS (isNeg 4,dg 4)/\isNeg 4=false/\(dg 4).length=1) (aB (isNeg C) fun r=>aB (dg C.natAbs) fun s=>aN (dS (r,s)) (aB (bif aHY.aPN (zv (r,s))then zv (r,s)else(0:Int)) fun t=>uV.L9 a b c d e f g h i o p q l t 0))))):=lJ aU
theorem aVR a b c d e f g h i j k l m n o:L9 a b c d e f g h i j k l m n o=letI H:=int i64 i;letI G:=zv (l,m)+8;letI F:=zv (l,m)-8;letI C:=dS (l,m)/\(-9223372036854775808:Int)<=(8:Int)/\(8:Int)<(9223372036854775808:Int);letI B:=uV.L4 a b c d e f g h (i64.wrap (i+i64.wrap (i64.wrap (i.tdiv 2)+64)));aC (decide (o<n)) (aN (dS (j,k)) (aB (isNeg (-zv (j,k))) fun p=>aB (dg (-zv (j,k)).natAbs) fun q=>uV.L9 a b c d e f g h i l m p q n (i64.wrap (o+1)))) (aN (dS (j,k)/\(-9223372036854775808:Int)<=(8:Int)/\(8:Int)<(9223372036854775808:Int)) (aB (isNeg (zv (j,k)-8)) fun r=>aB (dg (zv (j,k)-8).natAbs) fun s=>aB (isNeg (zv (j,k)+8)) fun t=>aB (dg (zv (j,k)+8).natAbs) fun u=>letI I:=(r,s,t,u,i);aC (a==2) (aN C (aB (isNeg F) fun v=>aB (dg F.natAbs) fun w=>aB (isNeg G) fun x=>aB (dg G.natAbs) fun y=>aN (dS (v,w)/\dS (x,y)/\w.length<=134217728/\y.length<=134217728/\0<=c/\c<=134217728) (aB (kO.Zk (zv (v,w)) (zv (x,y)) c) fun z=>aC z (some [D.agg [sc (bool v),ints u32 w,sc (bool x),ints u32 y,sc H]]) B))) (aC (a==3) (aN C (aB (isNeg F) fun aa=>aB (dg F.natAbs) fun ab=>aB (isNeg G) fun ac=>aB (dg G.natAbs) fun ad=>letI A:=gY.Vu (zv (kO.nL I)) (zv (kO.nH I)) (zv (kO.nL (aa,ab,ac,ad,i))) (zv (kO.nH (aa,ab,ac,ad,i))) I.snd.snd.snd.snd;aN (dS (aa,ab)/\dS (ac,ad)/\ab.length<=134217728/\ad.length<=134217728/\0<=c/\c<=134217728) (aB (kO.Zk (zv (aa,ab)) (zv (ac,ad)) c) fun ae=>aC (!ae) B (aN ((dS (r,s)/\dS (t,u)/\dS (aa,ab)/\dS (ac,ad))/\(bl (zv (r,s)).natAbs<=500000/\bl (zv (t,u)).natAbs<=500000/\bl (zv (aa,ab)).natAbs<=500000/\bl (zv (ac,ad)).natAbs<=500000)/\(0<=i/\i<=500000)/\zv (aa,ab)≠0/\zv (ac,ad)≠0) (aB (isNeg A.fst) fun af=>aB (dg A.fst.natAbs) fun ag=>aB (isNeg A.snd) fun ah=>aB (dg A.snd.natAbs) fun ai=>aN (dS (af,ag)/\dS (ah,ai)/\ag.length<=134217728/\ai.length<=134217728/\0<=c/\c<=134217728) (aB (kO.Zk (zv (af,ag)) (zv (ah,ai)) c) fun aj=>aC aj (some [D.agg [sc (bool af),ints u32 ag,sc (bool ah),ints u32 ai,sc H]]) B)))))) (aN (dS (r,s)/\dS (t,u)/\s.length<=134217728/\u.length<=134217728/\0<=c/\c<=134217728) (aB (kO.Zk (zv (r,s)) (zv (t,u)) c) fun ak=>aC ak (some [D.agg [sc (bool r),ints u32 s,sc (bool t),ints u32 u,sc H]]) B))))):=lJ aU
def sp(fn:Int)(m:Bool×List Int)(e p:Int):Prop×List D:=((1<=fn/\fn<=3)/\dS m/\Vo (zv m) e/\(1<=p/\p<=134000)/\q7 (zv m) e p<=134700,[vO.aXB (Jo fn (zv m) e (q7 (zv m) e p)).1 (Jo fn (zv m) e (q7 (zv m) e p)).2 (q7 (zv m) e p)])
theorem qM{v:Int}{n:Nat}(h:v.natAbs<=2^n):bl v.natAbs<=n+1:=eF.2 (cFA h (cFE (by decide) (cMD n)))
theorem uA{v o:Int}{n:Nat}(h:bl v.natAbs<=n)(ho:o.natAbs<=8):bl (v+o).natAbs<=n+5:=by
 refine bZJ (gD (show _<=v.natAbs+8 by omega)) (bZJ (qV _ _) ?_);have:bl 8=4:=rfl;omega
theorem aFA{a b:Int}{n:Nat}(hb:b≠0)(h:bl a.natAbs<=n):bl (fX.Vw a b).natAbs<=n+2/\bl (oM.Dq a b).natAbs<=n+2:=by
 have k:∀x:Int,x.natAbs=a.natAbs->bl (fX.Vw x b).natAbs<=n+2:=by
  intro x hx;have h1:=oM.aFB (a:=x) hb;rw[hx]at h1;refine bZJ (gD h1) (bZJ (qV _ _) ?_);have:bl 1=1:=rfl;omega
 refine⟨k a rfl,?_⟩;unfold oM.Dq;rw[cGD];exact k (-a) (cGD a)
theorem aUH{a b c d q:Int}(ha:bl a.natAbs<=500000)(hb:bl b.natAbs<=500000)(q1:q<=500000)(c0:c≠0)(d0:d≠0):bl (gY.Vu a b c d q).1.natAbs<=1000002/\bl (gY.Vu a b c d q).2.natAbs<=1000002:=by
 have n:∀{z:Int},bl z.natAbs<=500000->bl (-z).natAbs<=500000:=fun h=>by rw[cGD];exact h
 have k:∀{a b c d:Int},bl a.natAbs<=500000->bl b.natAbs<=500000->c≠0->d≠0->bl (gY.aGI a b c d q).1.natAbs<=1000002/\bl (gY.aGI a b c d q).2.natAbs<=1000002:=by
  intro a b c d ha hb c0 d0;unfold gY.aGI;dsimp only;constructor
  ·cases isNeg a
   ·exact(aFA d0 (gY.vU ha q1)).1
   ·exact(aFA c0 (gY.vU ha q1)).1
  ·cases isNeg b
   ·exact(aFA c0 (gY.vU hb q1)).2
   ·exact(aFA d0 (gY.vU hb q1)).2
 unfold gY.Vu;cases isNeg c
 ·exact k ha hb c0 d0
 ·exact k (n hb) (n ha) (by omega) (by omega)
theorem step{fn e p q n x7 S C:Int}{m1 b5 b6:Bool}{m2:List Int}{j:Int}(hS:dS (isNeg S,dg S.natAbs))(hj:0<=j/\j<3)(h:j<n):L9 fn e p m1 m2 b5 b6 x7 q (isNeg S) (dg S.natAbs) (isNeg C) (dg C.natAbs) n j=L9 fn e p m1 m2 b5 b6 x7 q (isNeg C) (dg C.natAbs) (isNeg (-S)) (dg (-S).natAbs) n (j+1):=by
 rw[aVR,aO h,gP hS,aE,aE,jD,wrap_i64]
theorem fin{fn e p q n x7 S C:Int}{m1 b5 b6:Bool}{m2:List Int}{k:Nat}(hS:bl S.natAbs<=k)(hC:bl C.natAbs<=k)(hk:k<=200000)(hp:0<=p/\p<=134217728)(hq:0<=q/\q<=500000)(hf:1<=fn/\fn<=3)(c0:C-8≠0)(d0:C+8≠0)
  (t2:fn≠1->kO.Zk (C-8) (C+8) p=true) (t1:fn=1->kO.Zk (S-8) (S+8) p=true) (t3:fn=3->kO.Zk (gY.Vu (S-8) (S+8) (C-8) (C+8) q).1 (gY.Vu (S-8) (S+8) (C-8) (C+8) q).2 p=true) :
  L9 fn e p m1 m2 b5 b6 x7 q (isNeg S) (dg S.natAbs) (isNeg C) (dg C.natAbs) n n=some [vO.aXB (if fn=2 then(C-8,C+8)else if fn=3 then gY.Vu (S-8) (S+8) (C-8) (C+8) q else(S-8,S+8)).1 (if fn=2 then(C-8,C+8)else if fn=3 then gY.Vu (S-8) (S+8) (C-8) (C+8) q else(S-8,S+8)).2 q]:=by
 have kS:=eA hS (by omega);have kC:=eA hC (by omega);have sm:bl (S-8).natAbs<=k+5:=uA (o:=-8) hS (by decide);have bNP:bl (S+8).natAbs<=k+5:=uA hS (by decide);have cm:bl (C-8).natAbs<=k+5:=uA (o:=-8) hC (by decide);have cp:bl (C+8).natAbs<=k+5:=uA hC (by decide);have l1:=fJ sm;have l2:=fJ bNP;have l3:=fJ cm;have l4:=fJ cp;have eL:∀a b c d:Int,zv (kO.nL (isNeg a,dg b.natAbs,isNeg c,dg d.natAbs,q))=zv (isNeg a,dg b.natAbs):=fun _ _ _ _=>rfl
 have eH:∀a b c d:Int,zv (kO.nH (isNeg a,dg b.natAbs,isNeg c,dg d.natAbs,q))=zv (isNeg c,dg d.natAbs):=fun _ _ _ _=>rfl
 have zS:=eA sm (by omega);have bNL:=eA bNP (by omega);have zC:=eA cm (by omega);have bHZ:=eA cp (by omega);rw[aVR,aM (Int.lt_irrefl _),gP ⟨kS,by decide,by decide⟩];simp only[aE,jD,eL,eH]
 by_cases f2:fn=2
 ·rw[dU f2,gP ⟨kC,by decide,by decide⟩,gP ⟨zC,bHZ,by omega,by omega,hp.1,hp.2⟩,t2 (by omega),bT,if_pos f2];rfl
 ·rw[cP f2,if_neg f2]
  by_cases f3:fn=3
  ·obtain⟨r1,r2⟩:=aUH (a:=S-8) (b:=S+8) (c:=C-8) (d:=C+8) (q:=q) (by omega) (by omega) hq.2 c0 d0;have m1:=fJ r1;have m2:=fJ r2;rw[dU f3,gP ⟨kC,by decide,by decide⟩,gP ⟨zC,bHZ,by omega,by omega,hp.1,hp.2⟩,t2 (by omega),cAN,bF,gP ⟨⟨zS,bNL,zC,bHZ⟩,⟨by omega,by omega,by omega,by omega⟩,hq,c0,d0⟩,gP ⟨eA r1 (by omega),eA r2 (by omega),by omega,by omega,hp.1,hp.2⟩,t3 f3,bT,if_pos f3];rfl
  ·rw[cP f3,gP ⟨zS,bNL,by omega,by omega,hp.1,hp.2⟩,t1 (by omega),bT,if_neg f3];rfl
theorem spec:Zg E f218 aF (pN .i64) nT (pN .i64) (pN .i64) sp:=by
 rintro fn m e p ⟨hf,hm,hd,⟨p0,p1⟩,hq⟩;refine(start fn m.1 m.2 e p).trans ?_;have ha:val m.2=(zv m).natAbs:=(kQ m).symm;have bKH:zv (m.1,m.2)=zv m:=rfl;have bm:bl (zv m).natAbs<=53:=eF.2 (by have:=hd.z1;have:(2:Nat)^53=9007199254740992:=rfl;omega);have e0:=hd.e0;have e1:=hd.e1;have len:=hm.len;have hQ:q7 (zv m) e p=p+80+(if -(((bl (zv m).natAbs:Nat):Int)+e)>0 then -(((bl (zv m).natAbs:Nat):Int)+e)else 0):=rfl;have wq:i64.wrap (i64.wrap (p+80)+if i64.wrap (0-i64.wrap (((bl (zv m).natAbs:Nat):Int)+e))>0 then i64.wrap (0-i64.wrap (((bl (zv m).natAbs:Nat):Int)+e))else 0)=q7 (zv m) e p:=by
  rw[wrap_i64 (n:=((bl (zv m).natAbs:Nat):Int)+e) (by omega) (by omega),wrap_i64 (n:=0-(((bl (zv m).natAbs:Nat):Int)+e)) (by omega) (by omega),wrap_i64 (n:=p+80),hQ,show 0-(((bl (zv m).natAbs:Nat):Int)+e)=-(((bl (zv m).natAbs:Nat):Int)+e) by omega];refine wrap_i64 ?_ ?_ <;> (split <;> omega)
 have bIF:81<=q7 (zv m) e p:=by rw[hQ];split <;> omega
 have N:=Sz (fn:=fn) hd p0 rfl hq hf;unfold sp;dsimp only;rw[ha,wq,gP ⟨hm.1,by omega⟩];generalize q7 (zv m) e p=q at *;have kk:dS (isNeg (k7 (zv m) e q),dg (k7 (zv m) e q).natAbs)/\(dg (k7 (zv m) e q).natAbs).length<=268435456:=by
  have hb:bl (k7 (zv m) e q).natAbs<=300000:=by
   unfold k7;cases aKB (zv m) e q
   ·have t:t7 (zv m) e=(if((bl (zv m).natAbs:Nat):Int)+e>0 then((bl (zv m).natAbs:Nat):Int)+e else 0)+4:=rfl;have tb:4<=t7 (zv m) e/\t7 (zv m) e<=1068:=by rw[t];split <;> omega
    have F0:=(cN.Cv (g:=(q+t7 (zv m) e).toNat) (by omega)).2;refine bZJ (gD (Sa.aKW (by omega))) (bZJ (qV _ _) ?_);have h1:bl (x7 (zv m) e q).natAbs<=64+137000:=Sa.aUF (n:=137000) (by omega) (by omega);have h2:bl (x7 (zv m) e q*2).natAbs<=137100:=by
     rw[cEC];refine bZJ (mK _ _) ?_;show bl _+bl 2<=_;have:bl 2=2:=rfl;omega
    have:bl 1=1:=rfl;omega
   ·exact cEN _
  have:=fJ hb;exact⟨eA hb (by omega),by omega⟩
 have ky:dS (isNeg (y7 (zv m) e q),dg (y7 (zv m) e q).natAbs):=eA (qM N.yb) (by omega);have v4:zv (isNeg 4,dg 4)=4:=jD 4;have l4:(dg 4).length=1:=by have h1:(dg 4).length<=1:=cU (by decide);have:=fZ (n:=4);omega
 have k4:dS (isNeg 4,dg 4):=qA (z:=4) (by show(dg 4).length<=_;omega);have r4:0<=k7 (zv m) e q%4/\k7 (zv m) e q%4<4:=by omega
 have kr:dS (isNeg (k7 (zv m) e q%4),dg (k7 (zv m) e q%4).natAbs):=eA (k:=3) (eF.2 (by have:(2:Nat)^3=8:=rfl;omega)) (by decide);have iI:aHY.aPN (k7 (zv m) e q%4)=true:=by unfold aHY.aPN;rw[dqT (by omega),dqT (by omega)];rfl
 rw[mG];simp only[bKH,aE,jD,v4,iI,cond_true];rw[gP ⟨hm,by omega,⟨by omega,by omega⟩,by omega,by omega⟩,gP ⟨ky,N.y0,⟨by omega,by omega⟩,N.yb⟩,gP ⟨by decide,by decide⟩,gP ⟨kk.1,kk.2,k4,fN.2 (by decide),l4⟩,gP kr];obtain⟨S,hS⟩:∃S,S=Ec (y7 (zv m) e q) q.toNat:=⟨_,rfl⟩;obtain⟨C,hC⟩:∃C,C=Et (y7 (zv m) e q) q.toNat:=⟨_,rfl⟩;have eS:vS (zv m) e q=aWO (k7 (zv m) e q) S C:=by rw[hS,hC];rfl
 have eC:vC (zv m) e q=aWP (k7 (zv m) e q) S C:=by rw[hS,hC];rfl
 rw[<-hS,<-hC];have sb:=N.sb;have cb:=N.cb;have F:=fin (fn:=fn) (e:=e) (p:=p) (q:=q) (n:=k7 (zv m) e q%4) (x7:=0) (S:=vS (zv m) e q) (C:=vC (zv m) e q) (m1:=m.1) (b5:=false) (b6:=false) (m2:=m.2) (k:=140000) (bZJ (qM sb) (by omega)) (bZJ (qM cb) (by omega)) (by decide) (by omega) (by omega) hf N.cl N.ch (fun _=>N.bAZ)
  (fun h1=>by have:=N.th;unfold Jo at this;rw[bI,bI]at this;exact this) (fun h3=>by have:=N.th;unfold Jo at this;rw[bI,if_pos h3]at this;exact this)
 unfold Jo;refine Eq.trans ?_ F;have bS:bl S.natAbs<=140000/\bl C.natAbs<=140000:=by
  rw[eS]at sb;rw[eC]at cb;unfold aWO at sb;unfold aWP at cb;split at sb <;> rename_i c1
  ·rw[if_pos c1]at cb;exact⟨bZJ (qM sb) (by omega),bZJ (qM cb) (by omega)⟩
  ·rw[if_neg c1]at cb;split at sb <;> rename_i c2
   ·rw[if_pos c2,cGD]at cb;exact⟨bZJ (qM cb) (by omega),bZJ (qM sb) (by omega)⟩
   ·rw[if_neg c2]at cb;split at sb <;> rename_i c3
    ·rw[if_pos c3,cGD]at cb;rw[cGD]at sb;exact⟨bZJ (qM sb) (by omega),bZJ (qM cb) (by omega)⟩
    ·rw[if_neg c3]at cb;rw[cGD]at sb;exact⟨bZJ (qM cb) (by omega),bZJ (qM sb) (by omega)⟩
 have zS:=eA bS.1 (by omega);have zC:=eA bS.2 (by omega);have zN:dS (isNeg (-S),dg (-S).natAbs):=eA (by rw[cGD];exact bS.1) (by omega);have h4:k7 (zv m) e q%4=0\/k7 (zv m) e q%4=1\/k7 (zv m) e q%4=2\/k7 (zv m) e q%4=3:=by omega
 rw[eS,eC];unfold aWO aWP;rcases h4 with h |h |h |h
 ·rw[if_pos h,if_pos h,h]
 ·rw[if_neg (show ¬k7 (zv m) e q%4=0 by omega),if_pos h,if_neg (show ¬k7 (zv m) e q%4=0 by omega),if_pos h,h,step zS (by decide) (by decide)];rfl
 ·rw[if_neg (show ¬k7 (zv m) e q%4=0 by omega),if_neg (show ¬k7 (zv m) e q%4=1 by omega),if_pos h,if_neg (show ¬k7 (zv m) e q%4=0 by omega),if_neg (show ¬k7 (zv m) e q%4=1 by omega),if_pos h,h,step zS (by decide) (by decide),step zC (by decide) (by decide)];rfl
 ·rw[if_neg (show ¬k7 (zv m) e q%4=0 by omega),if_neg (show ¬k7 (zv m) e q%4=1 by omega),if_neg (show ¬k7 (zv m) e q%4=2 by omega),if_neg (show ¬k7 (zv m) e q%4=0 by omega),if_neg (show ¬k7 (zv m) e q%4=1 by omega),if_neg (show ¬k7 (zv m) e q%4=2 by omega),h,step zS (by decide) (by decide),step zC (by decide) (by decide),step zN (by decide) (by decide),Int.neg_neg];rfl
def aJ:dO:=orc4 (pN .i64) nT (pN .i64) (pN .i64) sp
theorem ok:OK 218 aJ:=(eI E aF (aA Fg.ok (aA Sa.ok (aA nG.ok (aA aZY.ok (aA aCC.ok (aA aHY.ok (aA Jb.ok (aA vO.ok (aA kO.ok (aA gY.ok aD)))))))))) func218).aUP rfl spec
end uV
namespace dM
def E:=mE [(217,fL.aJ),(218,uV.aJ)] 19 [] [] []
def aF:=bd f185
theorem aU:Nk E aF:=nk
theorem start a b c:aG E f185 aF [D.s (sc (int i64 a)),D.s (sc (int u64 b)),D.s (sc (int i64 c))]=letI F:=(isNeg (fL.Th b),dg (fL.Th b).natAbs);letI C:=fL.Xa b;letI A:=zv F;letI B:=Jo a A C (q7 A C c);aN (0<=b/\b<18446744073709551616/\b%9223372036854775808<(9218868437227405312:Int)) (aN ((1<=a/\a<=3)/\dS F/\Vo A C/\(1<=c/\c<=134000)/\q7 A C c<=134700) (aB (isNeg B.fst) fun d=>aB (dg B.fst.natAbs) fun e=>aB (isNeg B.snd) fun f=>aB (dg B.snd.natAbs) fun g=>aB (q7 A C c) fun h=>some [D.agg [sc (bool d),ints u32 e,sc (bool f),ints u32 g,sc (int i64 h)]])):=eJ aU
def Qx(fn b p:Int):Prop:=(1<=fn/\fn<=3)/\(0<=b/\b<18446744073709551616/\b%9223372036854775808<9218868437227405312)/\Vo (fL.Th b) (fL.Xa b)/\(1<=p/\p<=134000)/\q7 (fL.Th b) (fL.Xa b) p<=134700
def rA(b p:Int):Int:=q7 (fL.Th b) (fL.Xa b) p
def qF(fn b p:Int):Int×Int:=Jo fn (fL.Th b) (fL.Xa b) (rA b p)
def sp(fn b p:Int):Prop×List D:=(Qx fn b p,[vO.aXB (qF fn b p).1 (qF fn b p).2 (rA b p)])
theorem spec:uQ E f185 aF (pN .i64) (pN .u64) (pN .i64) sp:=by
 rintro fn b p ⟨hf,hb,hd,hp,hq⟩;refine(start fn b p).trans ((gP hb).trans ?_);have bm:bl (fL.Th b).natAbs<=53:=eF.2 (by have:=hd.z1;have:(2:Nat)^53=9007199254740992:=rfl;omega);simp only[jD,aE];rw[gP ⟨hf,eA bm (by decide),hd,hp,hq⟩];rfl
def aJ:dO:=orc3 (pN .i64) (pN .u64) (pN .i64) sp
theorem ok:OK 185 aJ:=(eI E aF (aA fL.ok (aA uV.ok aD)) func185).Dn rfl spec
end dM
namespace Jv
def E:=mE [(134,Norm.aJ)] 32 [31] [(3,[0,3,4])] []
def aF:=bd f85
theorem aU:Nk E aF:=nk
def L3 a (b:Nat) (c:List Int) d:=nU E f85 aF 3 [iY a,(A.v (V.one (L.buf 1 b)),some { e:=(156:Nat),cont:=oH.ints u32 c }),bJ d]
theorem start a:aG E f85 aF [D.s (ints u64 a)]=if(0:Int)<=(0:Int)/\0<=i64.wrap ((2:Int)*(a.length:Int))/\i64.wrap ((2:Int)*(a.length:Int))<=8796093022208 then Jv.L3 a 0 (cAQ 0 (0:Int)) 0 else none:=eJ aU
theorem pE a b c d:L3 a b c d=letI F:=(a.length:Int);letI B:=a.getD d.toNat 0/(4294967296:Int);letI A:=gR BinOp.and u64 (a.getD d.toNat 0) 4294967295;letI C:=c.length+[u32.wrap A,u32.wrap B].length;aC (decide (d<F)) (if 0<=d/\d<F then if 0<=d/\d<F then if(0:Nat)<[u32.wrap A,u32.wrap B].length/\(C:Int)<=(8796093022208:Int)then Jv.L3 a C (c ++ [u32.wrap A,u32.wrap B]) (i64.wrap (d+1))else none else none else none) (aN (bM c/\c.length<=4398046511104) (some [D.own 156 u32 (dg (val c))])):=lJ aU
def sp(a:List Int):Prop×List D:=(M6.bM a/\a.length<=274877906944,[.own kX .u32 (dg (M6.val a))])
theorem Fz(i:Nat):(4294967296:Nat)^(2*i)=18446744073709551616^i:=by rw[Nat.pow_mul]
theorem L{a:List Int}(ha:M6.bM a)(hl:a.length<=274877906944):∀(r i m:Nat) (z:List Int),i+r=a.length->bM z->z.length=2*i->val z=M6.val (a.take i) ->
  L3 a m z i=some [.own kX .u32 (dg (M6.val a))]
 |0,i,m,z,hi,hz,bHB,hv=>by
  rw[M6.cC (by omega)]at hv;rw[pE,aM,gP ⟨hz,by omega⟩,hv]
 |r+1,i,m,z,hi,hz,bHB,hv=>by
  have g:=ha.get i;have w1:i64.wrap ((i:Int)+1)=((i+1:Nat):Int):=by rw[wrap_i64];omega
  have e1:u32.wrap (gR .and .u64 (a.getD i 0) 4294967295)=a.getD i 0%4294967296:=by rw[kR (by omega) (by omega),oN (by omega)]
  have e2:u32.wrap (a.getD i 0/4294967296)=a.getD i 0/4294967296:=oN (by omega);rw[pE,aO,aR,aR];simp only[cCJ,e1,e2,w1,cBX,cBY];rw[aR];refine L ha hl r (i+1) _ _ (by omega) (lS.2 ⟨hz,kF.2 ⟨by omega,kF.2 ⟨by omega,lC⟩⟩⟩) (by simp;omega) ?_;rw[iJ,M6.bR,hv,bHB,Fz];show _+_*((a.getD i 0%4294967296).toNat+4294967296*((a.getD i 0/4294967296).toNat+4294967296*0))=_;congr 2;omega
theorem spec:iH E f85 aF (pI .u64) sp:=by
 rintro a ⟨ha,hl⟩;refine(start a).trans ?_;rw[if_pos (by rw[wrap_i64 (n:=2*(a.length:Int))];omega)];exact L ha hl a.length 0 0 [] (by omega) lC rfl rfl
def aJ:dO:=orc1 (pI .u64) sp
theorem ok:OK 85 aJ:=(eI E aF (aA Norm.ok aD) func85).oV rfl spec
end Jv
namespace Og
def E:=mE [(85,Jv.aJ),(140,Mk.aJ)] 9 [] [] []
def aF:=bd f88
theorem aU:Nk E aF:=nk
theorem start a b:aG E f88 aF [D.agg [sc (bool a),ints u64 b]]=letI A:=dg (M6.val b);aN (M6.bM b/\b.length<=274877906944) (aN (bM A/\A.length<=4398046511104) (some [D.agg [sc (bool (isNeg (zs a (val A)))),ints u32 (dg (zs a (val A)).natAbs)]])):=eJ aU
def sp(x:Bool×List Int):Prop×List D:=(M6.bM x.2/\x.2.length<=137438953472,[zD (wv x)])
theorem bIU{a:List Int}(h:M6.bM a)(hl:a.length<=274877906944):(dg (M6.val a)).length<=2*a.length:=by
 refine cU ?_;rw[Jv.Fz];exact M6.cR h
theorem spec:iH E f88 aF qQ sp:=by
 intro x h;refine(start x.1 x.2).trans ((gP ⟨h.1,by have:=h.2;omega⟩).trans ?_);have:=bIU h.1 (by have:=h.2;omega);have h2:=h.2;rw[gP ⟨cA _,by omega⟩,bD];rfl
def aJ:dO:=orc1 qQ sp
theorem ok:OK 88 aJ:=(eI E aF (aA Jv.ok (aA Mk.ok aD)) func88).oV rfl spec
end Og
namespace Pd
def E:=mE [(182,Bu.aJ),(89,aCC.aJ),(84,Fg.aJ),(137,Oh.aJ),(136,Bv.aJ)] 70 [28,30,62,69] [(3,[1,3,4,6])] [3]
def aF:=bd f139
theorem aU:Nk E aF:=nk
def J3 a b c d e f:=lP E f139 aF 3 [bJ a,bJ b,bK 2 117 [bC c,iB d],bK 3 117 [bC e,iB f]]
theorem start a c b e f d:aG E f139 aF [D.agg [sc (bool a),ints u32 c],D.s (sc (int i64 b)),D.agg [sc (bool e),ints u32 f],D.s (sc (int i64 d))]=letI F:=dS (a,c);letI B:=cZ (zv (a,c)) 0-cZ (zv (e,f)) 0;letI C:=(isNeg (i64.wrap B),dg (i64.wrap B).natAbs);letI A:=aN F (aN (dS (e,f)) (aN ((-9223372036854775808:Int)<=i64.wrap B/\i64.wrap B<9223372036854775808) (aN (dS C) (some [D.s (sc (int i64 (cZ (zv C) 0)))]))));aN F (aN (dS (e,f)) (aC (cZ (zv (a,c)) 0 !=cZ (zv (e,f)) 0) A (aN F (aC (cZ (zv (a,c)) 0==(0:Int)) A (Pd.J3 b d a c e f))))):=eJ aU
theorem fH a b c d e f:J3 a b c d e f=letI F:=(↑(bl (val f)):Int);letI C:=(↑(bl (val d)):Int);letI B:=zv (e,f)*(2:Int)^(i64.wrap (b-a)).toNat;letI H:=(isNeg B,dg B.natAbs);letI A:=zv (c,d)*(2:Int)^(i64.wrap (a-b)).toNat;letI G:=(isNeg A,dg A.natAbs);aN (dS (c,d)) (aN (cO d/\d.length<=4398046511104) (aN (cO f/\f.length<=4398046511104) (aC (decide (i64.wrap (C+a)<i64.wrap (F+b))) (some [D.s (sc (int i64 (i64.wrap ((0:Int)-cZ (zv (c,d)) 0))))]) (aC (decide (i64.wrap (F+b)<i64.wrap (C+a))) (some [D.s (sc (int i64 (cZ (zv (c,d)) 0)))]) (aC (decide (b<a)) (aN (dS (c,d)/\i64.wrap (a-b)<=1099511627776) (aN (dS G/\dS (e,f)/\(dg A.natAbs).length<549755813888/\f.length<549755813888) (some [D.s (sc (int i64 (cZ (zv G) (zv (e,f)))))]))) (aN (dS (e,f)/\i64.wrap (b-a)<=1099511627776) (aN (dS (c,d)/\dS H/\d.length<549755813888/\(dg B.natAbs).length<549755813888) (some [D.s (sc (int i64 (cZ (zv (c,d)) (zv H))))])))))))):=cJ aU
def sp(m:Bool×List Int)(e:Int)(l:Bool×List Int)(f:Int):Prop×List D:=(dS m/\dS l/\m.2.length<=1048576/\l.2.length<=1048576/\(-16777216<=e/\e<=16777216)/\(-16777216<=f/\f<=16777216),[.s (.sc (.int .i64 (lR (zv m) e (zv l) f)))])
theorem Xl{m l:Int}{e f:Int}(h:(bl m.natAbs:Int)+e<bl l.natAbs+f)(hl:l≠0)(hs:cZ m 0=cZ l 0):lR m e l f=0-cZ m 0:=by
 have jM:m.natAbs*2^(e-f).toNat<l.natAbs*2^(f-e).toNat:=by
  have h1:=wX m.natAbs;have h2:=Rx (n:=l.natAbs) (by omega);have h3:=mY (n:=l.natAbs) (by omega);have a1:m.natAbs*2^(e-f).toNat<2^(bl m.natAbs+(e-f).toNat):=by
   rw[cDP];exact cGU h1 (cD)
  have a2:2^(bl l.natAbs-1+(f-e).toNat)<=l.natAbs*2^(f-e).toNat:=by
   rw[cDP];exact cAA _ h2
  have a3:2^(bl m.natAbs+(e-f).toNat)<=2^(bl l.natAbs-1+(f-e).toNat):=gO;omega
 unfold lR;have p1:(0:Int)<2^(e-f).toNat:=cBU (by omega);have p2:(0:Int)<2^(f-e).toNat:=cBU (by omega);have q1:(m*2^(e-f).toNat).natAbs=m.natAbs*2^(e-f).toNat:=by rw[cEC,cMQ];rfl
 have q2:(l*2^(f-e).toNat).natAbs=l.natAbs*2^(f-e).toNat:=by rw[cEC,cMQ];rfl
 rw[<-q1,<-q2]at jM;rcases cMM l 0 with h0 |h0 |h0
 ·have hm:m<0:=by
   unfold cZ at hs;rw[if_pos h0]at hs;split at hs
   ·assumption
   ·split at hs <;> omega
  have b1:=cIF hm p1;have b2:=cIF h0 p2;unfold cZ;rw[bI,aR,if_pos hm];rfl
 ·exact(hl h0).elim
 ·have hm:0<m:=by
   unfold cZ at hs;rw[if_neg (show ¬l<0 by omega),if_pos h0]at hs;split at hs
   ·omega
   ·split at hs
    ·assumption
    ·omega
  have b1:=cIE hm p1;have b2:=cIE h0 p2;unfold cZ;rw[aR,bI,if_pos hm];rfl
theorem aHT(a b:Int):cZ b a=0-cZ a b:=by unfold cZ;split <;> split <;> (try split) <;> (try split) <;> omega
theorem Nb(m e l f:Int):lR l f m e=0-lR m e l f:=by unfold lR;exact aHT _ _
theorem Wn{m e l f:Int}(h:cZ m 0≠cZ l 0\/cZ m 0=0):lR m e l f=cZ (cZ m 0-cZ l 0) 0:=by
 unfold lR;have p1:(0:Int)<2^(e-f).toNat:=cBU (by omega);have p2:(0:Int)<2^(f-e).toNat:=cBU (by omega);have key:∀(x p:Int),0<p->(x<0/\x*p<0)\/(x=0/\x*p=0)\/(0<x/\0<x*p):=by
  intro x p hp;rcases cMM x 0 with h |h |h
  ·exact .inl ⟨h,cIF h hp⟩
  ·exact .inr (.inl ⟨h,by rw[h,Int.zero_mul]⟩)
  ·exact .inr (.inr ⟨h,cIE h hp⟩)
 have k1:=key m _ p1;have k2:=key l _ p2;generalize m*2^(e-f).toNat=u at *;generalize l*2^(f-e).toNat=v at *;have c1:(m<0/\cZ m 0=-1)\/(m=0/\cZ m 0=0)\/(0<m/\cZ m 0=1):=by unfold cZ;split <;> (try split) <;> omega
 have c2:(l<0/\cZ l 0=-1)\/(l=0/\cZ l 0=0)\/(0<l/\cZ l 0=1):=by unfold cZ;split <;> (try split) <;> omega
 generalize cZ m 0=s at *;generalize cZ l 0=t at *;unfold cZ;split <;> split <;> (try split) <;> (try split) <;> omega
theorem J{m l:Bool×List Int}{e f:Int}(hm:dS m)(hl:dS l)(h1:m.2.length<=1048576)(h2:l.2.length<=1048576)(h3:-16777216<=e/\e<=16777216)(h4:-16777216<=f/\f<=16777216)(hs:cZ (zv m) 0=cZ (zv l) 0)(hz:cZ (zv m) 0≠0) :
  J3 e f m.1 m.2 l.1 l.2=some [D.s (.sc (.int .i64 (lR (zv m) e (zv l) f)))]:=by
 have b1:bl (val m.2)<=32*1048576:=Iq hm.1.iA (by omega);have b2:bl (val l.2)<=32*1048576:=Iq hl.1.iA (by omega);have em:(m.1,m.2)=m:=rfl;have el:(l.1,l.2)=l:=rfl;have aSA:zv m≠0:=fun h=>hz (by rw[h];rfl)
 have aSC:zv l≠0:=fun h=>hz (by rw[hs,h];rfl)
 rw[fH,em,el,gP hm,gP ⟨hm.1,by omega⟩,gP ⟨hl.1,by omega⟩,wrap_i64 (n:=(bl (val m.2):Int)+e),wrap_i64 (n:=(bl (val l.2):Int)+f)]
 by_cases c1:(bl (val m.2):Int)+e<bl (val l.2)+f
 ·rw[aO c1,Xl (by rw[kQ,kQ];exact c1) aSC hs,wrap_i64 ?_ ?_]
  ·unfold cZ;split <;> (try split) <;> omega
  ·unfold cZ;split <;> (try split) <;> omega
 ·rw[aM c1]
  by_cases c2:(bl (val l.2):Int)+f<bl (val m.2)+e
  ·rw[aO c2,Nb,Xl (by rw[kQ,kQ];exact c2) aSA hs.symm,<-hs];congr 5;omega
  ·rw[aM c2];have sh:∀(x:Bool×List Int) (k:Int),dS x->x.2.length<=1048576->k<=33554432->(dg (zv x*2^k.toNat).natAbs).length<549755813888:=by
    intro x k hx Dp hk;have e1:(zv x*2^k.toNat).natAbs=val x.2*2^k.toNat:=by rw[cEC,kQ,cMQ];rfl
    have:=zG (val x.2) k.toNat;rw[kY hx.1]at this;rw[e1];omega
   by_cases c3:f<e
   ·have s1:=sh m (e-f) hm h1 (by omega);rw[aO c3,wrap_i64 (n:=e-f),gP ⟨hm,by omega⟩,gP ⟨qA (by omega),hl,s1,by omega⟩,jD];unfold lR;rw[show(f-e).toNat=0 from by omega,Int.pow_zero,cLQ]
   ·have s1:=sh l (f-e) hl h2 (by omega);rw[aM c3,wrap_i64 (n:=f-e),gP ⟨hl,by omega⟩,gP ⟨hm,qA (by omega),by omega,s1⟩,jD];unfold lR;rw[show(e-f).toNat=0 from by omega,Int.pow_zero,cLQ]
theorem spec:Zg E f139 aF nT (pN .i64) nT (pN .i64) sp:=by
 intro m e l f h;refine(start m.1 m.2 e l.1 l.2 f).trans ?_;obtain⟨hm,hl,h1,h2,h3,h4⟩:=h;have em:(m.1,m.2)=m:=rfl;have el:(l.1,l.2)=l:=rfl;have c1:-1<=cZ (zv m) 0/\cZ (zv m) 0<=1:=by unfold cZ;split <;> (try split) <;> omega
 have c2:-1<=cZ (zv l) 0/\cZ (zv l) 0<=1:=by unfold cZ;split <;> (try split) <;> omega
 have ew:i64.wrap (cZ (zv m) 0-cZ (zv l) 0)=cZ (zv m) 0-cZ (zv l) 0:=wrap_i64;have hz:dS (isNeg (cZ (zv m) 0-cZ (zv l) 0),dg (cZ (zv m) 0-cZ (zv l) 0).natAbs):=Vz (k:=2) (by omega) (by omega);rw[em,el,gP hm,gP hl,ew,gP hm,gP hl,gP ⟨by omega,by omega⟩,gP hz,jD];show _=some [D.s (.sc (.int .i64 (lR (zv m) e (zv l) f)))]
 by_cases n1:cZ (zv m) 0=cZ (zv l) 0
 ·rw[gA n1,gP hm]
  by_cases n2:cZ (zv m) 0=0
  ·rw[dU n2,Wn (.inr n2)]
  ·rw[cP n2];exact J hm hl h1 h2 h3 h4 n1 n2
 ·rw[oG n1,Wn (.inl n1)]
def aJ:dO:=orc4 nT (pN .i64) nT (pN .i64) sp
theorem ok:OK 139 aJ:=(eI E aF (aA Bu.ok (aA aCC.ok (aA Fg.ok (aA Oh.ok (aA Bv.ok aD))))) func139).aUP rfl spec
end Pd
namespace sV
def E:=mE [(88,Og.aJ),(139,Pd.aJ)] 29 [] [] []
def aF:=bd f186
theorem aU:Nk E aF:=nk
theorem start a b c d e f g h:aG E f186 aF [D.agg [sc (bool a),ints u32 b,sc (bool c),ints u32 d,sc (int i64 e)],D.agg [sc (bool f),ints u64 g,sc (int i64 h)]]=letI A:=i64.wrap ((0:Int)-e);aN (M6.bM g/\g.length<=137438953472) (aB (isNeg (wv (f,g))) fun i=>aB (dg (wv (f,g)).natAbs) fun j=>aN (dS (i,j)/\dS (a,b)/\j.length<=1048576/\b.length<=1048576/\((-16777216:Int)<=h/\h<=16777216)/\(-16777216:Int)<=i64.wrap ((0:Int)-e)/\i64.wrap ((0:Int)-e)<=16777216) (aB (lR (zv (i,j)) h (zv (a,b)) A) fun k=>aC (decide (k<0)) (some [D.s (sc (int i64 (-1:Int)))]) (aN (dS (i,j)/\dS (c,d)/\j.length<=1048576/\d.length<=1048576/\((-16777216:Int)<=h/\h<=16777216)/\(-16777216:Int)<=i64.wrap ((0:Int)-e)/\i64.wrap ((0:Int)-e)<=16777216) (aB (lR (zv (i,j)) h (zv (c,d)) A) fun l=>aC (decide (0<l)) (some [D.s (sc (int i64 1))]) (some [D.s (sc (int i64 0))]))))):=eJ aU
open kO in
def Wq (l h q:Int) (d:Int×Int):Int:=if lR d.1 d.2 l (-q)<0 then -1 else if 0<lR d.1 d.2 h (-q)then 1 else 0
open kO in
def sp (s:bAH) (d:fB):Prop×List D:=(dS (nL s)/\dS (nH s)/\(nL s).2.length<=1048576/\(nH s).2.length<=1048576/\(0<=s.2.2.2.2/\s.2.2.2.2<=16777216)/\aQ d,[.s (.sc (.int .i64 (Wq (zv (nL s)) (zv (nH s)) s.2.2.2.2 (dv d))))])
open kO in
theorem spec (s:bAH) (d:fB) (h:(sp s d).1):aG E f186 aF [(pG (.pair sB (.pair (sI .u32) (.pair sB (.pair (sI .u32) (sN .i64)))))).put s,jQ.put d]=some (sp s d).2:=by
 obtain⟨k1,k2,l1,l2,⟨q0,q1⟩,hd⟩:=h;have e1:(s.1,s.2.1)=nL s:=rfl;have e2:(s.2.2.1,s.2.2.2.1)=nH s:=rfl;have e3:wv (d.1,d.2.1)=(dv d).1:=rfl;have e4:d.2.2=(dv d).2:=rfl;have bd:=hd.pK.1;have ed:=hd.pK.2.1;have ld:=fJ bd;have len:=hd.len;have wn:i64.wrap (0-s.2.2.2.2)=-s.2.2.2.2:=by rw[wrap_i64];omega
 have kd:=eA bd (by decide);refine(start s.1 s.2.1 s.2.2.1 s.2.2.2.1 s.2.2.2.2 d.1 d.2.1 d.2.2).trans ?_;simp only[aE,jD,e1,e2,e3,e4,wn];rw[gP ⟨hd.Fi.iA,by omega⟩,gP ⟨kd,k1,by omega,l1,by omega,by omega,by omega⟩];unfold sp Wq;dsimp only
 by_cases c1:lR (dv d).1 (dv d).2 (zv (nL s)) (-s.2.2.2.2)<0
 ·rw[aO c1,if_pos c1]
 ·rw[aM c1,if_neg c1,gP ⟨kd,k2,by omega,l2,by omega,by omega,by omega⟩]
  by_cases c2:0<lR (dv d).1 (dv d).2 (zv (nH s)) (-s.2.2.2.2)
  ·rw[aO c2,if_pos c2]
  ·rw[aM c2,if_neg c2]
def aJ:dO:=orc2 (pG (.pair sB (.pair (sI .u32) (.pair sB (.pair (sI .u32) (sN .i64)))))) jQ sp
theorem ok:OK 186 aJ:=(eI E aF (aA Og.ok (aA Pd.ok aD)) func186).jZ rfl spec
end sV
namespace xN
def E:=mE [(185,dM.aJ),(186,sV.aJ)] 46 [] [(2,[0,1,4,7,8,11])] []
def aF:=bd f143
theorem aU:Nk E aF:=nk
def L2 a b c d e f g h i j:=nU E f143 aF 2 [bJ a,dR b,bJ c,bK 3 29 [bC d,eR e,cV f],bK 4 29 [bC g,eR h,cV i],bJ j]
theorem start a b c d f g h i e:aG E f143 aF [D.s (sc (int i64 a)),D.s (sc (int u64 b)),D.agg [sc (bool c),ints u64 d,sc (int i64 f)],D.agg [sc (bool g),ints u64 h,sc (int i64 i)],D.s (sc (int i64 e))]=xN.L2 a b e c d f g h i (i64.wrap (e+100)):=eJ aU
theorem lE a b c d e f g h i j:L2 a b c d e f g h i j=letI F:=some [D.s (sc (bool true))];letI C:=some [D.s (sc (bool false))];letI B:=xN.L2 a b c d e f g h i (i64.wrap (j*2));letI A:=dM.qF a b j;aC (decide (j<=i64.wrap ((8:Int)*i64.wrap (c+100)))) (aN (dM.Qx a b j) (aB (isNeg A.fst) fun k=>aB (dg A.fst.natAbs) fun l=>aB (isNeg A.snd) fun m=>aB (dg A.snd.natAbs) fun n=>aN (dS (k,l)/\dS (m,n)/\l.length<=1048576/\n.length<=1048576/\(0<=dM.rA b j/\dM.rA b j<=16777216)/\aQ (d,e,f)) (aB (sV.Wq (zv (k,l)) (zv (m,n)) (dM.rA b j) (dv (d,e,f))) fun o=>aN (dS (k,l)/\dS (m,n)/\l.length<=1048576/\n.length<=1048576/\(0<=dM.rA b j/\dM.rA b j<=16777216)/\aQ (g,h,i)) (aB (sV.Wq (zv (k,l)) (zv (m,n)) (dM.rA b j) (dv (g,h,i))) fun p=>aC (decide (0<o)) C (aC (decide (p<0)) C (aC (decide (o<0)) (aC (decide (0<p)) F B) B)))))) F:=lJ aU
def Jm(fn b:Int)(l h:Int×Int)(p:Int):Nat->Int->Prop
 |0,q=>8*(p+100)<q
 |f+1,q=>8*(p+100)<q\/(dM.Qx fn b q/\sV.Wq (dM.qF fn b q).1 (dM.qF fn b q).2 (dM.rA b q) l<=0/\0<=sV.Wq (dM.qF fn b q).1 (dM.qF fn b q).2 (dM.rA b q) h /\
   ((sV.Wq (dM.qF fn b q).1 (dM.qF fn b q).2 (dM.rA b q) l<0/\0<sV.Wq (dM.qF fn b q).1 (dM.qF fn b q).2 (dM.rA b q) h)\/Jm fn b l h p f (q*2)))
theorem aWB{fn b p:Int}(h:dM.Qx fn b p):bl (dM.qF fn b p).1.natAbs<=1000002/\bl (dM.qF fn b p).2.natAbs<=1000002/\0<=dM.rA b p/\dM.rA b p<=134700:=by
 obtain⟨hf,hb,hd,⟨p0,p1⟩,hq⟩:=h;have N:=Sz (fn:=fn) hd p0 rfl hq hf;have q0:0<=dM.rA b p:=by unfold dM.rA q7;split <;> omega
 have eq:dM.rA b p=q7 (fL.Th b) (fL.Xa b) p:=rfl;unfold dM.qF;rw[<-eq]at N hq;refine⟨?_,?_,q0,hq⟩
 all_goals
  have s1:=uV.uA (o:=8) (uV.qM N.sb) (by decide);have s2:=uV.uA (o:=-8) (uV.qM N.sb) (by decide);have s3:=uV.uA (o:=8) (uV.qM N.cb) (by decide);have s4:=uV.uA (o:=-8) (uV.qM N.cb) (by decide);have r:=uV.aUH (a:=vS (fL.Th b) (fL.Xa b) (dM.rA b p)-8) (b:=vS (fL.Th b) (fL.Xa b) (dM.rA b p)+8) (q:=dM.rA b p) (bZJ s2 (by omega)) (bZJ s1 (by omega)) (by omega) N.cl N.ch;unfold Jo;split
  ·first |exact bZJ s4 (by omega) |exact bZJ s3 (by omega)
  ·split
   ·first |exact r.1 |exact r.2
   ·first |exact bZJ s2 (by omega) |exact bZJ s1 (by omega)
def sp(fn b:Int)(l h:fB)(p:Int):Prop×List D:=(aQ l/\aQ h/\(1<=p/\p<=66000)/\Jm fn b (dv l) (dv h) p 5 (p+100),[.s (.sc (.bool true))])
theorem L{fn b p:Int}{l h:fB}(hl:aQ l)(hh:aQ h)(hp:1<=p/\p<=66000):∀(f:Nat) (q:Int),0<=q->q<=2000000->Jm fn b (dv l) (dv h) p f q->L2 fn b p l.1 l.2.1 l.2.2 h.1 h.2.1 h.2.2 q=some [.s (.sc (.bool true))]:=by
 have w1:i64.wrap (8*i64.wrap (p+100))=8*(p+100):=by rw[wrap_i64 (n:=p+100),wrap_i64]
 have el:dv (l.1,l.2.1,l.2.2)=dv l:=rfl;have eh:dv (h.1,h.2.1,h.2.2)=dv h:=rfl;intro f
 induction f with
 |zero =>
  intro q q0 q1 hk;have hk:8*(p+100)<q:=hk;rw[lE,w1,aM]
 |succ f ih =>
  intro q q0 q1 hk;rw[lE,w1]
  by_cases c:q<=8*(p+100)
  ·rcases hk with hk |⟨ok,a1,a2,a3⟩
   ·omega
   ·obtain⟨b1,b2,q2,q3⟩:=aWB ok;have l1:=fJ b1;have l2:=fJ b2;have z1:=eA b1 (by decide);have z2:=eA b2 (by decide);have wq:i64.wrap (q*2)=q*2:=wrap_i64;rw[aO c,gP ok];simp only[aE,jD,el,eh,wq];rw[gP ⟨z1,z2,by omega,by omega,⟨by omega,by omega⟩,hl⟩,gP ⟨z1,z2,by omega,by omega,⟨by omega,by omega⟩,hh⟩,aM,aM];rcases a3 with ⟨d1,d2⟩ |a3
    ·rw[aO d1,aO d2]
    ·have r:=ih (q*2) (by omega) (by omega) a3
     by_cases d1:sV.Wq (dM.qF fn b q).1 (dM.qF fn b q).2 (dM.rA b q) (dv l)<0
     ·rw[aO d1]
      by_cases d2:0<sV.Wq (dM.qF fn b q).1 (dM.qF fn b q).2 (dM.rA b q) (dv h)
      ·rw[aO d2]
      ·rw[aM d2];exact r
     ·rw[aM d1];exact r
  ·rw[aM c]
theorem spec(fn b:Int)(l h:fB)(p:Int)(hs:(sp fn b l h p).1):aG E f143 aF [(pN .i64).put fn,(pN .u64).put b,jQ.put l,jQ.put h,(pN .i64).put p]=some (sp fn b l h p).2:=by
 obtain⟨hl,hh,hp,hk⟩:=hs;refine(start fn b l.1 l.2.1 l.2.2 h.1 h.2.1 h.2.2 p).trans ?_;rw[wrap_i64 (n:=p+100)];exact L hl hh hp 5 (p+100) (by omega) (by omega) hk
def aJ:dO:=orc5 (pN .i64) (pN .u64) jQ jQ (pN .i64) sp
theorem ok:OK 143 aJ:=(eI E aF (aA dM.ok (aA sV.ok aD)) func143).bCS rfl spec
end xN
end W
end Go.Proofs.YtcnlagnipklcmaaGreatDoor
end
