/- Contracts. -/
import Derived.RangeFuncFrom
import Derived.RangeFuncLeaves
import Derived.RangeFuncCalls
import Derived.Shelf.Abstract
import Derived.WalkKit
import Derived.OwnWalkIn
import Derived.TacticsInMore
import Derived.LoopNIn
import Derived.LoopIn
import Derived.Test.YtplagoepbghhpaaGreatDoorBZivOdd4
set_option linter.unusedVariables false
set_option linter.unusedSimpArgs false
set_option exponentiation.threshold 10000000
noncomputable section
open Go.IntKind(i8 i16 i32 i64 u8 u16 u32 u64)
open Go.Proofs.Tryz
open Rat renaming le_of_lt->cGW,intCast_natCast->cNB,le_refl->cID,intCast_add->cOP,intCast_mul->cNA,le_trans->cGU,intCast_neg->cOO,intCast_sub->cPV,natCast_mul->cIO,mul_assoc->cMZ,zero_mul->cQS,div_def->cQT,one_mul->cQU,mul_le_mul_of_nonneg_right->cQV,natCast_add->cMB
open Nat renaming le_trans->cCL,le_refl->cBP,pow_succ->cGO,pow_add->cGP,zero_le->cHS,pow_pos->cEP,reduceAdd->cQO,reduceSub->cQP,lt_of_lt_of_le->cCM,mul_assoc->cGS,zero_add->cBR,le_succ->cOR,mod_eq_of_lt->cME,mul_add->cGQ,pow_zero->cLQ,div_eq_of_lt->cHM,mul_le_mul_right->cDE,pow_le_pow_right->cEQ,div_le_self->cKC,div_lt_of_lt_mul->cHJ,pow_lt_pow_right->cII
open Int renaming toNat_natCast->cFM,eq_ofNat_of_zero_le->cGR,toNat->cPW,emod_nonneg->cKT,mul_assoc->cIC,tdiv_eq_ediv_of_nonneg->cJD,natAbs_neg->cIJ,emod_lt_of_pos->cKU,tmod_eq_emod_of_nonneg->cJE,natAbs_natCast->cHH,mul_ediv_add_emod->cKS,emod_eq_of_lt->cLB,mul_le_mul_of_nonneg_right->cDZ
open List renaming length_cons->cFA,length_nil->cFB,nil_append->cFS,cons_append->cDI,replicate->cDS,size_toArray->cDF,push_toArray->cQQ,append_toArray->cQR,append_assoc->cDK,drop->cHL,take->cHK,take_length->cIK,length_replicate->cOY,length_append->cCT,ext_getElem?->cFO,getElem?_eq_getElem->cCG,length_drop->cFP,drop_zero->cHW
open Bool renaming true_and->cER,false_and->cGY,false_or->cDQ,and_eq_true->cBV
namespace Go.Proofs.YtplagoepbghhpaaGreatDoor
namespace M
open Go AI W
theorem aTO{a b:Nat}{p:Int}(hp:1<=p)(ha:a≠0)(hb:b≠0):p+3<=(bl (cU.Yb a b (cU.Dy p a b)):Nat):=by
 have h1:=aAB ha;have h2:=wM b;have b0:=qZ ha;have key:2^(p+1).toNat<=a*2^(cU.Dy p a b)/b:=by
  rw[Nat.le_div_iff_mul_le (by omega)];have e1:2^(p+1).toNat*b<=2^((p+1).toNat+bl b):=by rw[cGP];exact Nat.mul_le_mul_left _ (Nat.le_of_lt h2)
  have e2:2^(bl a-1+cU.Dy p a b)<=a*2^(cU.Dy p a b):=by rw[cGP];exact cDE _ h1
  have e3:2^((p+1).toNat+bl b)<=2^(bl a-1+cU.Dy p a b):=cEQ (by decide) (by unfold cU.Dy;omega);omega
 have:2^(p+2).toNat<=cU.Yb a b (cU.Dy p a b):=by
  have e:2^(p+2).toNat=2^(p+1).toNat*2:=by rw[<-cGO];congr 1;omega
  unfold cU.Yb;rw[e];generalize a*2^(cU.Dy p a b)/b=Q at *;omega
 have:=(sQ (n:=cU.Yb a b (cU.Dy p a b)) (k:=(p+2).toNat)).2 this;omega
theorem Tn(b:Bool)(n:Nat):(zs b n:Rat)=(if b then -1 else 1)*(n:Rat):=by
 cases b
 ·show((n:Int):Rat)=_;rw[cNB];simp
 ·show((-(n:Int):Int):Rat)=_;rw[cOO,cNB,if_pos rfl];grind
theorem aWP(z:Int):zs (isNeg z) z.natAbs=z:=by
 cases h:isNeg z with
 |true=>have:=kJ.1 h;show -(z.natAbs:Int)=z;omega
 |false=>have:=gH.1 h;show(z.natAbs:Int)=z;omega
theorem Li(up:Bool){x y:Int×Int}{p:Int}{q:Rat}(hp:1<=p)(hy:y.1≠0)(hq:q*R.qz y=R.qz x) :
  (up=false->R.qz (aQ (cU.wL up p x y).1 (cU.wL up p x y).2)<=q/\q<=R.qz (aQ (cU.wL up p x y).1 (cU.wL up p x y).2)+R.pz (2-p)*R.ab q) /\
  (up=true->q<=R.qz (aQ (cU.wL up p x y).1 (cU.wL up p x y).2)/\R.qz (aQ (cU.wL up p x y).1 (cU.wL up p x y).2)<=q+R.pz (2-p)*R.ab q):=by
 rw[pD];unfold cU.wL cU.bFE;dsimp only;obtain⟨v,v1,v2,v3⟩:=aTN (a:=x.1.natAbs) (b:=y.1.natAbs) (s:=cU.Dy p x.1.natAbs y.1.natAbs) (by omega);have bLD:=aTO (a:=x.1.natAbs) (b:=y.1.natAbs) hp;have cBH:=R.aO q;generalize hs:cU.Dy p x.1.natAbs y.1.natAbs=s at *;generalize hQ:cU.Yb x.1.natAbs y.1.natAbs s=Q at *;obtain⟨e,he⟩:∃e,e=x.2-y.2-(s:Int)-1:=⟨_,rfl⟩;rw[<-he];have pe:=R.dU e;have vq:q=(if(isNeg x.1 !=isNeg y.1)then -1 else 1)*v*R.pz e:=by
  have aUO:(x.1:Rat)=(if isNeg x.1 then -1 else 1)*(x.1.natAbs:Rat):=by rw[<-Tn,aWP]
  have aOF:(y.1:Rat)=(if isNeg y.1 then -1 else 1)*(y.1.natAbs:Rat):=by rw[<-Tn,aWP]
  have bUS:R.qz y≠0:=aWZ hy;have ex:R.pz x.2=2*((2^s:Nat):Rat)*R.pz e*R.pz y.2:=by
   have:x.2=e+y.2+(s:Int)+1:=by omega
   rw[this,R.kF,R.eN,R.jQ];grind
  have e2:((if(isNeg x.1 !=isNeg y.1)then -1 else 1)*v*R.pz e)*R.qz y=R.qz x:=by
   unfold R.qz;rw[ex,aUO,aOF];have:v*(y.1.natAbs:Rat)=2*((x.1.natAbs:Rat)*((2^s:Nat):Rat)):=v1;cases isNeg x.1 <;> cases isNeg y.1 <;> simp <;> grind
  have e3:(q-(if(isNeg x.1 !=isNeg y.1)then -1 else 1)*v*R.pz e)*R.qz y=0:=by grind
  rcases Rat.mul_eq_zero.1 e3 with h |h
  ·grind
  ·exact absurd h bUS
 obtain⟨w,hw⟩:∃w,w=(if(isNeg x.1 !=isNeg y.1)then(-1:Rat)else 1)*v:=⟨_,rfl⟩;rw[<-hw]at vq;obtain⟨z,hz⟩:∃z,z=zs (isNeg x.1 !=isNeg y.1) Q:=⟨_,rfl⟩;rw[<-hz];have bMM:(z:Rat)=w\/(z%2=1/\(z:Rat)-1<w/\w<(z:Rat)+1):=by
  rw[hz,Tn,hw];rcases v3 with h |⟨h1,h2,h3⟩
  ·left;rw[h]
  ·right;refine⟨?_,?_⟩
   ·cases (isNeg x.1 !=isNeg y.1)
    ·show((Q:Nat):Int)%2=1;omega
    ·show(-(Q:Int))%2=1;omega
   ·cases (isNeg x.1 !=isNeg y.1) <;> simp <;> constructor <;> grind
 have za:z.natAbs=Q:=by rw[hz];exact kS _ _
 have cBG:R.ab q=R.ab w*R.pz e:=by rw[vq,R.fX,R.bS (cGW pe)]
 have bTU:=R.dU (2-p);unfold cX.oY
 by_cases c:(bl z.natAbs:Int)-p<=0
 ·rw[if_pos c];dsimp only;have bFT:(z:Rat)=w:=by
   rcases bMM with h |⟨h,_⟩
   ·exact h
   ·exfalso;have Qv:x.1.natAbs≠0:=by
     intro h0;rw[h0]at hQ;have:Q=0:=by
      rw[<-hQ];unfold cU.Yb;rw[Nat.zero_mul,Nat.zero_div,Nat.zero_mod,if_pos rfl]
     omega
    have:=bLD Qv (by omega);rw[za]at c;omega
  have:=R.aG (cGW bTU) cBH;rw[bFT,<-vq];constructor <;> (intro _;constructor <;> grind)
 ·rw[if_neg c];dsimp only;obtain⟨k,hk⟩:=cGR (show 0<=(bl z.natAbs:Int)-p by omega);rw[hk,cFM,R.eN];obtain⟨c1,c2⟩:=aVW up (z:=z) (v:=w) (k:=k) (by omega) bMM;have lit:((2^k:Nat):Rat)<=R.pz (2-p)*R.ab w:=by
   have aIK:z≠0:=by intro h0;rw[h0]at c;exact c (by show(bl 0:Int)-p<=0;rw[Vw];omega)
   have t1:=(pZ (p:=(z,0)) aIK).1;have ez:R.qz (z,0)=(z:Rat):=by unfold R.qz;dsimp only;rw[R.fM];grind
   rw[ez]at t1;have et:bA (z,0)=(bl z.natAbs:Int)-1:=by unfold bA;dsimp only;omega
   rw[et]at t1;have b2:2<=bl z.natAbs:=by omega
   have aw:R.ab (z:Rat)-1<=R.ab w:=by
    rcases bMM with h |⟨_,h1,h2⟩
    ·rw[h];grind
    ·have:=R.Wb w ((z:Rat)-w);have:R.ab ((z:Rat)-w)<=1:=by rw[R.cK];constructor <;> grind
     have:w+((z:Rat)-w)=(z:Rat):=by grind
     grind
   have e1:R.pz ((bl z.natAbs:Int)-1)=2*R.pz ((bl z.natAbs:Int)-2):=by rw[<-R.kF];congr 1;omega
   have e2:1<=R.pz ((bl z.natAbs:Int)-2):=by rw[<-R.fM];exact R.cY (by omega)
   have e3:((2^k:Nat):Rat)=R.pz (2-p)*R.pz ((bl z.natAbs:Int)-2):=by rw[<-R.jQ,<-R.mI,<-hk];congr 1;omega
   rw[e3];have:=R.aG (cGW bTU) (show 0<=R.ab w-R.pz ((bl z.natAbs:Int)-2) by grind);grind
  rw[cBG,vq];have l2:=R.aG (cGW pe) (show 0<=R.pz (2-p)*R.ab w-((2^k:Nat):Rat) by grind);generalize (lH.qW up z k:Rat)=cz at *;generalize ((2^k:Nat):Rat)=K at *;generalize R.pz (2-p)=P2 at *;generalize R.pz e=E at *;generalize R.ab w=aw at *;constructor
  ·intro hu;obtain⟨d1,d2⟩:=c1 hu;have m1:=R.aG (cGW pe) (show 0<=w-cz*K by grind);have m2:=R.aG (cGW pe) (show 0<=cz*K+K-w by grind);constructor <;> grind
  ·intro hu;obtain⟨d1,d2⟩:=c2 hu;have m1:=R.aG (cGW pe) (show 0<=cz*K-w by grind);have m2:=R.aG (cGW pe) (show 0<=w+K-cz*K by grind);constructor <;> grind
theorem aZE(up:Bool){x y:Int×Int}{p:Int}(hp:1<=p/\p<=70000)(bx:bl x.1.natAbs<=100000)(cBF:bl y.1.natAbs<=100000)(ex:-110000<=x.2/\x.2<=1000)(ey:-110000<=y.2/\y.2<=1000) :
  iN (cU.wL up p x y).1 (cU.wL up p x y).2=true/\bl (aQ (cU.wL up p x y).1 (cU.wL up p x y).2).1.natAbs<=70001:=by
 unfold cU.wL cU.bFE;dsimp only;have hs:cU.Dy p x.1.natAbs y.1.natAbs<=170002:=by unfold cU.Dy;omega
 have hQ:bl (cU.Yb x.1.natAbs y.1.natAbs (cU.Dy p x.1.natAbs y.1.natAbs))<=270006:=by
  have h1:bl (x.1.natAbs*2^(cU.Dy p x.1.natAbs y.1.natAbs))<=270002:=cCL (cE.Lv bx) (by omega);have h2:cU.Yb x.1.natAbs y.1.natAbs (cU.Dy p x.1.natAbs y.1.natAbs)<=x.1.natAbs*2^(cU.Dy p x.1.natAbs y.1.natAbs)*2+1:=by
   have:x.1.natAbs*2^(cU.Dy p x.1.natAbs y.1.natAbs)/y.1.natAbs<=x.1.natAbs*2^(cU.Dy p x.1.natAbs y.1.natAbs):=cKC _ _;unfold cU.Yb;generalize x.1.natAbs*2^(cU.Dy p x.1.natAbs y.1.natAbs)/y.1.natAbs=A at *;generalize x.1.natAbs*2^(cU.Dy p x.1.natAbs y.1.natAbs)=B at *;split <;> omega
  refine cCL (gF h2) (cCL (Di _ _) ?_);have h3:=Ja (x.1.natAbs*2^(cU.Dy p x.1.natAbs y.1.natAbs)) 2;have h4:bl 2=2:=rfl;have h5:bl 1=1:=rfl;omega
 generalize cU.Dy p x.1.natAbs y.1.natAbs=s at *;generalize cU.Yb x.1.natAbs y.1.natAbs s=Q at *;have hz:(zs (isNeg x.1 !=isNeg y.1) Q).natAbs=Q:=kS _ _;rw[<-hz]at hQ;generalize zs (isNeg x.1 !=isNeg y.1) Q=z at *;unfold cX.oY;split
 ·dsimp only;exact⟨iL (by omega) (by omega),cCL (xE _ _) (by omega)⟩
 ·dsimp only;have hc:=aDD up z ((bl z.natAbs:Int)-p).toNat p.toNat (by omega);generalize lH.qW up z ((bl z.natAbs:Int)-p).toNat=c at *;exact⟨iL (by omega) (by omega),cCL (xE _ _) (by omega)⟩
theorem Zs{a b u v S C V ρ m q1 q2:Rat}(ha:a+m<=S)(hb:S+m<=b)(aYB:b-a<=ρ*S)(hu:u+m<=C)(hv:C+m<=v)(huv:v-u<=ρ*C)(m0:0<=m)(S0:0<S)(C0:0<C)(C1:C<=1)(r0:0<=ρ)(r1:ρ<=1/64)(hV:V*C=S)(h1:q1*v=a)(h2:q2*u=b) :
  q1+m<=V/\V+m<=q2/\q2<=V+3*ρ*V/\V-2*ρ*V<=q1/\0<V/\0<=q1:=by
 have rS:=R.aG (cGW S0) (show 0<=1/64-ρ by grind);have rC:=R.aG (cGW C0) (show 0<=1/64-ρ by grind);have a0:0<a:=by grind
 have u0:0<u:=by grind
 have v0:0<v:=by grind
 have V0:0<V:=by
  refine Rat.not_le.1 fun hn=>?_
  have:=R.aG (show 0<=-V by grind) (cGW C0);grind
 have bLM:0<q1:=by
  refine Rat.not_le.1 fun hn=>?_
  have:=R.aG (show 0<=-q1 by grind) (cGW v0);grind
 have bVG:0<q2:=by
  refine Rat.not_le.1 fun hn=>?_
  have:=R.aG (show 0<=-q2 by grind) (cGW u0);grind
 have mC:=R.aG m0 (show 0<=1-C by grind);have rV:=R.aG r0 (cGW V0);have bRD:=R.aG rV (cGW C0);have rr:=R.aG bRD (show 0<=1/64-ρ by grind);have rq:=R.aG bRD r0;refine⟨?_,?_,?_,?_,V0,cGW bLM⟩
 ·refine R.cO C0 ?_;have:=R.aG (cGW bLM) (show 0<=v-C by grind);grind
 ·refine R.cO C0 ?_;have:=R.aG (cGW bVG) (show 0<=C-u by grind);grind
 ·refine R.cO u0 ?_;have h:=R.aG (show 0<=V+3*ρ*V by grind) (show 0<=u-(C-ρ*C) by grind);have e:(V+3*ρ*V)*(C-ρ*C)=V*C+2*(ρ*V*C)-3*(ρ*V*C*ρ):=by grind
  have e2:ρ*S=ρ*V*C:=by rw[<-hV];grind
  grind
 ·refine R.cO v0 ?_;have h:=R.aG (show 0<=V-2*ρ*V by have:=R.aG (cGW V0) (show 0<=1/64-ρ by grind);grind) (show 0<=(C+ρ*C)-v by grind);have e:(V-2*ρ*V)*(C+ρ*C)=V*C-ρ*V*C-2*(ρ*V*C*ρ):=by grind
  have e2:ρ*S=ρ*V*C:=by rw[<-hV];grind
  grind
theorem aHH{p:Int×Int}:decide (eZ p (0,0)<0)=decide (R.qz p<0):=by
 have h:=Dh (p:=p) (q:=(0,0));rw[R.pV (p:=(0,0)) rfl]at h
 by_cases c:R.qz p<0
 ·rw[decide_eq_true c,decide_eq_true (h.2 c)]
 ·rw[decide_eq_false c,decide_eq_false fun hh=>c (h.1 hh)]
def Kt(p:Int×Int):Prop:=bl p.1.natAbs<=100000/\-110000<=p.2/\p.2<=1000
theorem Az{p:Int×Int}(hb:bl p.1.natAbs<=100000)(Bp:p.1≠0)(h0:R.pz (-1300)<=R.ab (R.qz p))(h1:R.ab (R.qz p)<=2):Kt p:=by
 have a:=Ej Bp h0;have b:bA p<=1:=Fu Bp (by rw[R.aNA];exact h1);have c:=qZ (n:=p.1.natAbs) (by omega);unfold bA at a b;exact⟨hb,by omega,by omega⟩
theorem aFO{s c:(Int×Int)×(Int×Int)}{S C V ρ m:Rat}{p:Int}(hs:Bx s S (ρ*R.ab S) m)(hc:Bx c C (ρ*R.ab C) m)(S0:S≠0)(C0:0<C)(C1:C<=1)(r0:0<=ρ)(r1:ρ<=1/64)(hV:V*C=S)(hp:4<=p/\p<=70000)
  (z1:Kt s.1) (z2:Kt s.2) (z3:Kt c.1) (z4:Kt c.2) :
  iN (jR.aKJ p s.1 c.1 c.2).1 (jR.aKJ p s.1 c.1 c.2).2=true/\iN (jR.aKK p s.2 c.1 c.2).1 (jR.aKK p s.2 c.1 c.2).2=true /\
  Bx (aQ (jR.aKJ p s.1 c.1 c.2).1 (jR.aKJ p s.1 c.1 c.2).2,aQ (jR.aKK p s.2 c.1 c.2).1 (jR.aKK p s.2 c.1 c.2).2) V ((5*ρ+3*R.pz (2-p))*R.ab V) m:=by
 obtain⟨s1,s2,s3,s4,m0,s6,s7,s8⟩:=hs;obtain⟨c1,c2,c3,c4,_,c6,c7,c8⟩:=hc;rw[R.bS (cGW C0)]at c8;have rC:=R.aG (cGW C0) (show 0<=1/64-ρ by grind);have u0:0<R.qz c.1:=by grind
 have v0:0<R.qz c.2:=by grind
 have un:c.1.1≠0:=Jy (by grind);have vn:c.2.1≠0:=Jy (by grind);have e2:=R.dU (2-p);have e3:R.pz (2-p)<=1/4:=by
  have h:=R.cY (show 2-p<=-2 by omega);have h2:=R.yY 2;rw[show -((2:Nat):Int)=-2 by rfl]at h2;rw[h2]at h;have h3:R.hf 2=1/4:=by simp[R.hf];grind
  grind
 have xD:∀up (x y:Int×Int),Kt x->Kt y->iN (cU.wL up p x y).1 (cU.wL up p x y).2=true/\kQ (aQ (cU.wL up p x y).1 (cU.wL up p x y).2)/\bl (aQ (cU.wL up p x y).1 (cU.wL up p x y).2).1.natAbs<=100000:=by
  intro up x y hx hy;obtain⟨h1,h2⟩:=aZE up (x:=x) (y:=y) (p:=p) (by omega) hx.1 hy.1 hx.2 hy.2;refine⟨h1,⟨by omega,?_,fun h=>Ep h,fun h=>Ge h⟩,by omega⟩;unfold iN at h1;unfold aQ;split
  ·dsimp only;omega
  ·rename_i Bp;rw[decide_eq_false Bp,cDQ,cBV]at h1;exact⟨of_decide_eq_true h1.1,of_decide_eq_true h1.2⟩
 have aQE:∀a b:Rat,b≠0->a/b*b=a:=fun a b h=>by grind
 unfold jR.aKJ jR.aKK;rw[aHH,aHH]
 by_cases hS:0<S
 ·rw[R.bS (cGW hS)]at s8;have rS:=R.aG (cGW hS) (show 0<=1/64-ρ by grind);rw[decide_eq_false (show ¬R.qz s.1<0 by grind),decide_eq_false (show ¬R.qz s.2<0 by grind),cond_false,cond_false];obtain⟨d1,d2,d3,d4,V0,q0⟩:=Zs (q1:=R.qz s.1/R.qz c.2) (q2:=R.qz s.2/R.qz c.1) s6 s7 s8 c6 c7 c8 m0 hS C0 C1 r0 r1 hV (aQE _ _ (by grind)) (aQE _ _ (by grind));have n1:=(Li false (x:=s.1) (y:=c.2) (p:=p) (q:=R.qz s.1/R.qz c.2) (by omega) vn (aQE _ _ (by grind))).1 rfl;have n2:=(Li true (x:=s.2) (y:=c.1) (p:=p) (q:=R.qz s.2/R.qz c.1) (by omega) un (aQE _ _ (by grind))).2 rfl;obtain⟨i1,p1,b1⟩:=xD false s.1 c.2 z1 z4;obtain⟨i2,p2,b2⟩:=xD true s.2 c.1 z2 z3;rw[R.bS q0]at n1;rw[R.bS (show 0<=R.qz s.2/R.qz c.1 by grind)]at n2;refine⟨i1,i2,p1,p2,b1,b2,m0,by grind,by grind,?_⟩;rw[R.bS (cGW V0)];generalize R.qz s.1/R.qz c.2=q1 at *;generalize R.qz s.2/R.qz c.1=q2 at *;have k1:=R.aG (cGW e2) (show 0<=V+3*ρ*V-q2 by grind);have k2:=R.aG (cGW e2) (show 0<=V-q1 by grind);have k3:=R.aG (R.aG (cGW e2) (cGW V0)) (show 0<=1/64-ρ by grind);dsimp only;grind
 ·have bPE:0 < -S:=by grind
  have eS:R.ab S=-S:=by unfold R.ab;rw[if_neg (by grind)]
  rw[eS]at s8;have rS:=R.aG (cGW bPE) (show 0<=1/64-ρ by grind);rw[decide_eq_true (show R.qz s.1<0 by grind),decide_eq_true (show R.qz s.2<0 by grind),cond_true,cond_true];have f1:-(R.qz s.2/R.qz c.2)*R.qz c.2=-R.qz s.2:=by have:=aQE (R.qz s.2) (R.qz c.2) (by grind);grind
  have f2:-(R.qz s.1/R.qz c.1)*R.qz c.1=-R.qz s.1:=by have:=aQE (R.qz s.1) (R.qz c.1) (by grind);grind
  obtain⟨d1,d2,d3,d4,V0,q0⟩:=Zs (V:=-V) (a:=-R.qz s.2) (b:=-R.qz s.1) (S:=-S) (q1:=-(R.qz s.2/R.qz c.2)) (q2:=-(R.qz s.1/R.qz c.1)) (by grind) (by grind) (by grind) c6 c7 c8 m0 bPE C0 C1 r0 r1 (by grind) f1 f2;have n1:=(Li false (x:=s.1) (y:=c.1) (p:=p) (q:=R.qz s.1/R.qz c.1) (by omega) un (aQE _ _ (by grind))).1 rfl;have n2:=(Li true (x:=s.2) (y:=c.2) (p:=p) (q:=R.qz s.2/R.qz c.2) (by omega) vn (aQE _ _ (by grind))).2 rfl;obtain⟨i1,p1,b1⟩:=xD false s.1 c.1 z1 z3;obtain⟨i2,p2,b2⟩:=xD true s.2 c.2 z2 z4;rw[<-R.iZ,R.bS (show 0<=-(R.qz s.1/R.qz c.1) by grind)]at n1;rw[<-R.iZ,R.bS q0]at n2;refine⟨i1,i2,p1,p2,b1,b2,m0,by grind,by grind,?_⟩;rw[<-R.iZ,R.bS (cGW V0)];generalize R.qz s.2/R.qz c.2=q1 at *;generalize R.qz s.1/R.qz c.1=q2 at *;have k1:=R.aG (cGW e2) (show 0<=-V+3*ρ*-V+q2 by grind);have k2:=R.aG (cGW e2) (show 0<=-V+q1 by grind);have k3:=R.aG (R.aG (cGW e2) (cGW V0)) (show 0<=1/64-ρ by grind);dsimp only;grind
theorem Kx{p:Int×Int}(h:Kt p):Kt (lB.yB p):=by
 obtain⟨a,b⟩:=h;refine⟨?_,b⟩;show bl (-p.1).natAbs<=_;rw[cIJ];exact a
theorem Mu{a b:Int×Int}(h:0<R.qz a)(aYB:R.qz a<=R.qz b):fZ.uI a b=1:=by
 unfold fZ.uI;have z:R.qz (0,0)=0:=R.pV rfl;rw[if_neg (fun hh=>by have:=Dh.1 hh;grind),if_pos (zM.2 (by grind))]
theorem aBS{a b:Int×Int}(h:R.qz b<0):fZ.uI a b=-1:=by
 unfold fZ.uI;have z:R.qz (0,0)=0:=R.pV rfl;rw[if_pos (Dh.2 (by grind))]
theorem aMZ{s c:(Int×Int)×(Int×Int)}{S C V ρ m:Rat}{p:Int}(hs:Bx s S (ρ*R.ab S) m)(hc:Bx c C (ρ*R.ab C) m)(S0:S≠0)(C0:C≠0)(C1:R.ab C<=1)(r0:0<=ρ)(r1:ρ<=1/64)(hV:V*C=S)(hp:4<=p/\p<=70000)
  (z1:Kt s.1) (z2:Kt s.2) (z3:Kt c.1) (z4:Kt c.2) :
  fZ.uI c.1 c.2≠0/\iN (jR.My p s.1 s.2 c.1 c.2).1 (jR.My p s.1 s.2 c.1 c.2).2=true/\iN (jR.Mz p s.1 s.2 c.1 c.2).1 (jR.Mz p s.1 s.2 c.1 c.2).2=true /\
  Bx (aQ (jR.My p s.1 s.2 c.1 c.2).1 (jR.My p s.1 s.2 c.1 c.2).2,aQ (jR.Mz p s.1 s.2 c.1 c.2).1 (jR.Mz p s.1 s.2 c.1 c.2).2) V ((5*ρ+3*R.pz (2-p))*R.ab V) m:=by
 have lo:=hc.lo;have hi:=hc.hi;have m0:=hc.m0;have wd:=hc.wd
 by_cases c0:0<C
 ·rw[R.bS (cGW c0)]at C1 wd;have rC:=R.aG (cGW c0) (show 0<=1/64-ρ by grind);have sg:=Mu (a:=c.1) (b:=c.2) (by grind) (by grind);unfold jR.My jR.Mz;rw[sg,show((1:Int)==-1)=false from rfl];simp only[cond_false];exact⟨by decide,aFO hs hc S0 c0 C1 r0 r1 hV hp z1 z2 z3 z4⟩
 ·have e:R.ab C=-C:=by unfold R.ab;rw[if_neg (by grind)]
  rw[e]at C1 wd;have rC:=R.aG (show 0<=-C by grind) (show 0<=1/64-ρ by grind);have sg:=aBS (a:=c.1) (b:=c.2) (by grind);unfold jR.My jR.Mz;rw[sg,show((-1:Int)==-1)=true from rfl];simp only[cond_true];have rW:=hs.neg;have bOW:=hc.neg;rw[<-R.iZ]at rW bOW;have s0:-S≠0:=by grind
  have c1:0 < -C:=by grind
  have v1:V*-C=-S:=by grind
  have q:=aFO rW bOW s0 c1 C1 r0 r1 v1 hp (Kx z2) (Kx z1) (Kx z4) (Kx z3);dsimp only at q;exact⟨by decide,q⟩
theorem aFW{s:(Int×Int)×(Int×Int)}{V W m:Rat}{n:Int}(pl:kQ s.1)(ph:kQ s.2)(m0:0<=m)(lo:R.qz s.1+m<=V)(hi:V+m<=R.qz s.2)(wd:R.qz s.2-R.qz s.1<=W)(hn:1<=n/\n<=70000)(h1:R.ab (R.qz s.1)<=R.pz 1100)(h2:R.ab (R.qz s.2)<=R.pz 1100) :
  yQ false s.1 n=true/\yQ true s.2 n=true/\Bx (shD false s.1 n,shD true s.2 n) V (W+R.pz (1-n)*(R.ab (R.qz s.1)+R.ab (R.qz s.2))) m:=by
 have aXI:∀{p:Int×Int},kQ p->R.ab (R.qz p)<=R.pz 1100->bLF p:=by
  intro p hp hv;refine⟨hp,?_⟩
  by_cases h0:p.1=0
  ·have hb:M.bl p.1.natAbs=0:=by rw[h0];rfl
   have:=hp.2.2.1 h0;omega
  ·have:=Fu h0 hv;unfold bA at this;omega
 obtain⟨a1,a2⟩:=Rz (up:=false) (n:=n) (aXI pl h1) hn.1;obtain⟨a3,a4⟩:=Rz (up:=true) (n:=n) (aXI ph h2) hn.1;have n1:=(Hu false s.1 hn.1).1 rfl;have n2:=(Hu true s.2 hn.1).2 rfl;have b1:=Ba false s.1 n.toNat;have b2:=Ba true s.2 n.toNat;rw[show((n.toNat:Nat):Int)=n by omega]at b1 b2;exact⟨a1,a3,a2,a4,by dsimp only;omega,by dsimp only;omega,m0,by dsimp only;grind,by dsimp only;grind,by dsimp only;grind⟩
theorem aCA{s:(Int×Int)×(Int×Int)}{V W m:Rat}{n:Int}(h:Bx s V W m)(hn:1<=n/\n<=70000)(h1:R.ab (R.qz s.1)<=R.pz 1100)(h2:R.ab (R.qz s.2)<=R.pz 1100) :
  yQ false s.1 n=true/\yQ true s.2 n=true/\Bx (shD false s.1 n,shD true s.2 n) V (W+R.pz (1-n)*(R.ab (R.qz s.1)+R.ab (R.qz s.2))) m :=
 aFW h.pl h.ph h.m0 h.lo h.hi h.wd hn h1 h2
theorem aTB{a b:Int×Int}{p:Int}(aYB:R.qz a<=R.qz b)(h:(0<R.qz a/\(R.qz b-R.qz a)*R.pz p<=R.qz a)\/(R.qz b<0/\(R.qz b-R.qz a)*R.pz p<=-R.qz b)):Hf.bDO a b p=true:=by
 unfold Hf.bDO
 by_cases he:eZ a b=0
 ·rw[he];rfl
 ·rw[show(eZ a b==0)=false from beq_eq_false_iff_ne.2 he,cond_false];obtain⟨n,hn,sg,hw⟩:∃n:Int×Int,(bif decide (fZ.uI a b<0)then b else a)=n/\fZ.uI a b≠0/\(n.1≠0/\(R.qz b-R.qz a)*R.pz p<=R.ab (R.qz n)):=by
   rcases h with ⟨h1,h2⟩ |⟨h1,h2⟩
   ·rw[Mu h1 aYB];exact⟨a,rfl,by decide,Jy (by grind),by rw[R.bS (cGW h1)];exact h2⟩
   ·rw[aBS h1];refine⟨b,rfl,by decide,Jy (by grind),?_⟩;have:R.ab (R.qz b)=-R.qz b:=by unfold R.ab;rw[if_neg (by grind)]
    rw[this];exact h2
  rw[show(fZ.uI a b==0)=false from beq_eq_false_iff_ne.2 sg,cond_false,hn];have w0:(bV.oP b (-a.1,a.2)).1≠0:=aMJ he;have wq:R.qz (bV.oP b (-a.1,a.2))=R.qz b-R.qz a:=by rw[Ud,nV];grind
  generalize bV.oP b (-a.1,a.2)=w at *;obtain⟨n0,hw⟩:=hw;rw[<-wq]at hw;have wp:0<=R.qz w:=by rw[wq];grind
  obtain⟨t1,t2⟩:=pZ w0;obtain⟨u1,u2⟩:=pZ n0;rw[R.bS wp]at t1 t2;have pp:=R.dU p
  by_cases ht:bA w+p=bA n
  ·rw[show(bA w+p !=bA n)=false from by rw[ht];exact bne_self_eq_false _,cond_false];refine decide_eq_true (mD.2 ?_);have un:∀x:Int×Int,R.qz (aKI x)*R.pz (bA x)=R.ab (R.qz x):=by
    intro x;rw[Th];unfold aKI R.qz;dsimp only;rw[cNB,cMZ,<-R.jQ];congr 2;unfold bA;omega
   have e1:=un w;have e2:=un n;rw[R.bS wp]at e1;rw[<-ht,R.jQ]at e2;refine R.cO (q:=R.pz (bA w)*R.pz p) (Rat.mul_pos (R.dU _) pp) ?_;have e3:R.qz (aKI w)*(R.pz (bA w)*R.pz p)=R.qz w*R.pz p:=by rw[<-cMZ,e1]
   grind
  ·rw[show(bA w+p !=bA n)=true from bne_iff_ne.2 ht,cond_true];refine decide_eq_true ?_;have:R.pz (bA w+p)<R.pz (bA n+1):=by
    rw[R.jQ];have:=R.aG (show 0<=R.qz w-R.pz (bA w) by grind) (cGW pp);grind
   have:=R.xZ.1 this;omega
end M
open Go.Value(int bool slice)
open AI.S(sc ints)
namespace W
open Go AI M
namespace tA
def Rt(x:gW):Prop:=aU x/\((dv x).1≠0->eZ (((dv x).1.natAbs:Nat),(dv x).2) (1,0)<=0/\-524288<=(dv x).2+(bl (dv x).1.natAbs:Nat)-1)
end tA
namespace rB
def E:=mE [(45,mZ.aJ),(158,Ku.aJ),(14,aSA.aJ),(203,Cr.aJ)] 62 [] [(10,[30,31,32]),(4,[1,20,21,22]),(3,[1])] [3]
def aE:=bd f201
theorem aT:Nk E aE:=nk
def J3(a:Nat)(b:Nat->Bool)(c:Nat->List Int)(d:Nat->Int):=lK E f201 aE 3 [(A.v (V.one (L.rows 3 a fun i=>[sc (bool (b i)),ints u64 (c i),sc (int i64 (d i))])),none)]
def L4(a:Nat)(b:Nat->Bool)(c:Nat->List Int)(d:Nat->Int)(e:Nat)(f:Nat->Bool)(g:Nat->List Int)(h:Nat->Int) j k:=qA E f201 aE 4 [(A.v (V.one (L.rows 3 a fun i=>[sc (bool (b i)),ints u64 (c i),sc (int i64 (d i))])),none),(A.v (V.one (L.rows 3 e fun i=>[sc (bool (f i)),ints u64 (g i),sc (int i64 (h i))])),none),bP j,bP k]
def Jm(a:Nat)(b:Nat->Bool)(c:Nat->List Int)(d:Nat->Int) e f:=qA E f201 aE 10 [(A.v (V.one (L.rows 3 a fun i=>[sc (bool (b i)),ints u64 (c i),sc (int i64 (d i))])),none),bP e,bP f]
theorem start p (a:gW) (b:gW):aF E f201 aE [D.s (sc (int i64 p)),D.rows 3 2 fun i=>[sc (bool (t2 a b i).fst),ints u64 (t2 a b i).snd.fst,sc (int i64 (t2 a b i).snd.snd)]]=letI A:=some [D.s (sc (int i64 1))];aB (decide (p<1)) A (aB (decide (67000<p)) A (rB.J3 2 (fun i=>(t2 a b i).fst) (fun i=>(t2 a b i).snd.fst) fun i=>(t2 a b i).snd.snd)):=eJ aT
theorem iB a b c d:J3 a b c d=rB.L4 a (fun i=>b i) (fun i=>c i) (fun i=>d i) a (fun i=>b i) (fun i=>c i) (fun i=>d i) (a:Int) 0:=cJ aT
theorem nR a b c d e f g h j k:L4 a b c d e f g h j k=aB (decide (k<j)) (if 0<=k/\k<(e:Int)then aN (aU (f k.toNat,g k.toNat,h k.toNat)) (rB.L4 a (fun i=>b i) (fun i=>c i) (fun i=>d i) e (fun i=>f i) (fun i=>g i) (fun i=>h i) j (i64.wrap (k+1)))else none) (rB.Jm a (fun i=>b i) (fun i=>c i) (fun i=>d i) (a:Int) 0):=lJ aT
theorem tB a b c d e f:Jm a b c d e f=letI F:=some [D.s (sc (int i64 5))];letI C:=(b f.toNat,c f.toNat,d f.toNat);letI B:=(false,c f.toNat,d f.toNat);letI A:=(isNeg (aQ 1 0).fst,M6.dg (aQ 1 0).fst.natAbs,(aQ 1 0).snd);aB (decide (f<e)) (if 0<=f/\f<(a:Int)then aB ((↑(c f.toNat).length:Int)==(0:Int)) (rB.Jm a (fun i=>b i) (fun i=>c i) (fun i=>d i) e (i64.wrap (f+1))) (aN ((-9223372036854775808:Int)<=(1:Int)/\(1:Int)<(9223372036854775808:Int)) (aN (aU B/\aU A) (aN (aU C) (aB (decide (0<lF (bV.oD (dv B) (dv A)) (bV.oC (dv B) (dv A)))) F (aB (decide ((if(dv C).fst=0 then(0:Int)else d f.toNat+(↑(bl (M6.val (c f.toNat))):Int)-(1:Int))<(-524288:Int))) F (rB.Jm a (fun i=>b i) (fun i=>c i) (fun i=>d i) e (i64.wrap (f+1))))))))else none) (some [D.s (sc (int i64 0))]):=lJ aT
abbrev Rt:=tA.Rt
def sp(p:Int)(a:gW×gW):Prop×List D:=((1<=p/\p<=67000)/\Rt a.1/\Rt a.2,[.s (.sc (.int .i64 0))])
theorem LB(n:Nat)(f:Nat->gW)(hn:n<=1000)(hf:∀i,i<n->Rt (f i)):∀d k:Nat,k+d=n->Jm n (fun i=>(f i).1) (fun i=>(f i).2.1) (fun i=>(f i).2.2) (n:Int) (k:Int)=some [.s (.sc (.int .i64 0))]
 |0,k,h=>by rw[tB,aL]
 |d+1,k,h=>by
  have e:i64.wrap ((k:Int)+1)=((k+1:Nat):Int):=by rw[wrap_i64];omega
  have r:=LB n f hn hf d (k+1) (by omega);obtain⟨hx,ht⟩:=hf k (by omega);have hz:=M6.cZ hx.Kl;have ha:(dv (f k)).1.natAbs=M6.val (f k).2.1:=iY ((f k).1,(f k).2.1);rw[tB,aM,aR,cFM,e]
  by_cases h0:(f k).2.1.length=0
  ·rw[bJ];exact r
  ·have hv:(dv (f k)).1≠0:=fun hc=>h0 (hz.2 (by omega))
   obtain⟨t1,t2⟩:=ht hv;have n1:aQ 1 0=(1,0):=by decide +kernel
   have pn:kQ (1,0):=⟨by decide +kernel,⟨by decide,by decide⟩,fun h=>absurd h (by decide),fun _=>by decide⟩;have v1:=dZ ((1,0):Int×Int);have ok:aU (false,(f k).2.1,(f k).2.2):=⟨⟨hx.1.1,fun hf=>(by cases hf),hx.1.len⟩,hx.2⟩;have vx:dv (false,(f k).2.1,(f k).2.2)=((((dv (f k)).1.natAbs:Nat):Int),(dv (f k)).2):=by rw[ha];rfl
   have bYQ:((f k).1,(f k).2.1,(f k).2.2)=f k:=rfl;simp only[n1,v1,vx,bYQ];rw[bB,gP ⟨by decide,by decide⟩,gP ⟨ok,dW pn⟩,gP hx];have bUZ:¬0<lF (bV.oD ((((dv (f k)).1.natAbs:Nat):Int),(dv (f k)).2) (1,0)) (bV.oC ((((dv (f k)).1.natAbs:Nat):Int),(dv (f k)).2) (1,0)):=Int.not_lt.2 t1;have bUY:¬(f k).2.2+((bl (M6.val (f k).2.1):Nat):Int)-1 < -524288:=by
    rw[ha]at t2;have:(dv (f k)).2=(f k).2.2:=rfl;omega
   rw[aL bUZ,if_neg hv,aL bUY];exact r
theorem LA(n:Nat)(f:Nat->gW)(hn:n<=1000)(hf:∀i,i<n->Rt (f i)):∀d k:Nat,k+d=n->L4 n (fun i=>(f i).1) (fun i=>(f i).2.1) (fun i=>(f i).2.2) n (fun i=>(f i).1) (fun i=>(f i).2.1) (fun i=>(f i).2.2) (n:Int) (k:Int)=some [.s (.sc (.int .i64 0))]
 |0,k,h=>by rw[nR,aL];exact LB n f hn hf n 0 (by omega)
 |d+1,k,h=>by
  have e:i64.wrap ((k:Int)+1)=((k+1:Nat):Int):=by rw[wrap_i64];omega
  rw[nR,aM,aR,cFM,gP (hf k (by omega)).1,e];exact LA n f hn hf d (k+1) (by omega)
theorem spec:fN E f201 aE (pN .i64) (bJQ (.pair sB (.pair (sI .u64) (sN .i64))) (false,[],0)) sp:=by
 rintro p a ⟨⟨p0,p1⟩,h⟩;have hf:∀i,i<2->Rt (t2 a.1 a.2 i):=fun i hi=>by
  obtain rfl |rfl:i=0\/i=1:=by omega
  ·exact h.1
  ·exact h.2
 refine(start p a.1 a.2).trans ?_;rw[aL,aL,iB];exact LA 2 (fun i=>t2 a.1 a.2 i) (by decide) hf 2 0 (by omega)
def aJ:dJ:=orc2 (pN .i64) (bJQ (.pair sB (.pair (sI .u64) (sN .i64))) (false,[],0)) sp
theorem ok:OK 201 aJ:=(dY E aE (aA mZ.ok (aA Ku.ok (aA aSA.ok (aA Cr.ok aC)))) func201).lD rfl spec
end rB
namespace Jh
def E:=mE [(67,wV.aJ),(201,rB.aJ)] 21 [20] [(3,[1,2])] [3]
def aE:=bd f156
theorem aT:Nk E aE:=nk
def J3 a b c d e f g:=lK E f156 aE 3 [bP a,dR 1 44 [dG b,gM c,cF d,dG e,gM f,cF g]]
theorem start a c d e f g b:aF E f156 aE [D.agg [sc (bool a),ints u64 c,sc (int i64 d),sc (bool e),ints u64 f,sc (int i64 g)],D.s (sc (int i64 b))]=letI A:=some [D.s (sc (int i64 1))];aB (decide (b<1)) A (aB (decide (67000<b)) A (Jh.J3 b a c d e f g)):=eJ aT
theorem iB a b c d e f g:J3 a b c d e f g=aN (fD (b,c,d,e,f,g)) (aN ((1<=a/\a<=67000)/\rB.Rt (b,c,d)/\rB.Rt (e,f,g)) (some [D.s (sc (int i64 0))])):=cJ aT
def sp(s:yM)(p:Int):Prop×List D:=((1<=p/\p<=67000)/\fD s/\tA.Rt (iO s)/\tA.Rt (iP s),[.s (.sc (.int .i64 0))])
theorem spec:fN E f156 aE Ae (pN .i64) sp:=by
 rintro s p ⟨⟨p0,p1⟩,h1,h2,h3⟩;refine(start s.1 s.2.1 s.2.2.1 s.2.2.2.1 s.2.2.2.2.1 s.2.2.2.2.2 p).trans ?_;rw[aL,aL]
 first
  |exact(gP h1).trans (gP ⟨⟨p0,p1⟩,h2,h3⟩)
  | (rw[iB];exact(gP h1).trans (gP ⟨⟨p0,p1⟩,h2,h3⟩))
def aJ:dJ:=orc2 Ae (pN .i64) sp
theorem ok:OK 156 aJ:=(dY E aE (aA wV.ok (aA rB.ok aC)) func156).lD rfl spec
end Jh
namespace cV
def E:=mE [(156,Jh.aJ),(120,Jj.aJ),(158,Ku.aJ),(159,fZ.aJ),(160,bN.aJ)] 61 [17] [(10,[1,2,4,9,10]),(13,[1,4,9,10])] [10,13]
def aE:=bd f116
theorem aT:Nk E aE:=nk
def aSR a b c d e f g h i j k l m n o p q:=lK E f116 aE 10 [bP a,dR 1 44 [dG b,gM c,cF d,dG e,gM f,cF g],dR 2 44 [dG h,sc (slice none 0 0),cF i,dG j,sc (slice none 0 0),cF k],dR 3 29 [dG l,gM m,cF n],dR 4 29 [dG o,gM p,cF q]]
def Pz a b c d e f g h i j:=lK E f116 aE 13 [bP a,dR 1 44 [dG b,sc (slice none 0 0),cF c,dG d,sc (slice none 0 0),cF e],dR 2 29 [dG f,sc (slice none 0 0),cF g],dR 3 29 [dG h,gM i,cF j]]
def bDD a b c d e f g h i j k:=lK E f116 aE 13 [bP a,dR 1 44 [dG b,sc (slice none 0 0),cF c,dG d,sc (slice none 0 0),cF e],dR 2 29 [dG f,gM g,cF h],dR 3 29 [dG i,gM j,cF k]]
theorem start a c d e f g b:aF E f116 aE [D.agg [sc (bool a),ints u64 c,sc (int i64 d),sc (bool e),ints u64 f,sc (int i64 g)],D.s (sc (int i64 b))]=letI C:=(false,f,g);letI B:=(false,c,d);letI A:=(a,c,d,e,f,g);aN ((1<=b/\b<=67000)/\fD A/\tA.Rt (iO A)/\tA.Rt (iP A)) (aN (aU B/\aU C) (aD (lF (bV.oD (dv B) (dv C)) (bV.oC (dv B) (dv C))) fun h=>aB (decide (0<h)) (cV.aSR b a c d e f g false 0 false 0 false f g false c d) (cV.aSR b a c d e f g false 0 false 0 false c d false f g))):=eJ aT
theorem aED a b c d e f g h i j k l m n o p q:aSR a b c d e f g h i j k l m n o p q=letI A:=(b,c,d,e,f,g);aN (fD A) (aD (fZ.uI (dv (iO A)) (dv (iP A))) fun r=>aB (r==0) (cV.Pz a h i j k false 0 o p q) (cV.bDD a h i j k l m n o p q)):=cJ aT
theorem wW a b c d e f g h i j:Pz a b c d e f g h i j=letI A:=i64.wrap (a+2);letI C:=bN.tW (dv (h,i,j)) A;letI B:=bN.sW (dv (f,[],g)) A;aN (bN.aJO (h,i,j) A) (aD (isNeg C.fst) fun k=>aD (M6.dg C.fst.natAbs) fun l=>aD C.snd fun m=>aN (bN.aJO (f,[],g) A) (aD (isNeg B.fst) fun n=>aD (M6.dg B.fst.natAbs) fun o=>aD B.snd fun p=>some [D.agg [sc (bool k),ints u64 l,sc (int i64 m),sc (bool n),ints u64 o,sc (int i64 p)],D.s (sc (int i64 0))])):=cJ aT
theorem aWN a b c d e f g h i j k:bDD a b c d e f g h i j k=letI A:=i64.wrap (a+2);letI C:=bN.sW (dv (f,g,h)) A;letI B:=bN.tW (dv (i,j,k)) A;aN (bN.aJO (i,j,k) A) (aD (isNeg B.fst) fun l=>aD (M6.dg B.fst.natAbs) fun m=>aD B.snd fun n=>aN (bN.aJO (f,g,h) A) (aD (isNeg C.fst) fun o=>aD (M6.dg C.fst.natAbs) fun p=>aD C.snd fun q=>some [D.agg [sc (bool l),ints u64 m,sc (int i64 n),sc (bool o),ints u64 p,sc (int i64 q)],D.s (sc (int i64 0))])):=cJ aT
def aBH(x:gW):gW:=(false,x.2.1,x.2.2)
def Bt(s:yM):gW:=bif decide (0<eZ (dv (aBH (iO s))) (dv (aBH (iP s))))then aBH (iO s)else aBH (iP s)
def uZ(s:yM):gW:=bif fZ.uI (dv (iO s)) (dv (iP s))==0 then(false,[],0)else bif decide (0<eZ (dv (aBH (iO s))) (dv (aBH (iP s))))then aBH (iP s)else aBH (iO s)
def aDH(s:yM)(p:Int):Prop:=((1<=p/\p<=67000)/\fD s/\tA.Rt (iO s)/\tA.Rt (iP s))/\(bN.sp (Bt s) (p+2)).1/\(bN.sp (uZ s) (p+2)).1
def sp(s:yM)(p:Int):Prop×List D:=(aDH s p,[wY (bN.tW (dv (Bt s)) (p+2)) (bN.sW (dv (uZ s)) (p+2)),.s (.sc (.int .i64 0))])
theorem JN{s:yM}{p:Int}(hp:1<=p/\p<=67000)(hs:fD s){n f:gW}(hf:(bN.sp f (p+2)).1)(hn:(bN.sp (bif fZ.uI (dv (iO s)) (dv (iP s))==0 then(false,[],0)else n) (p+2)).1) :
  aSR p s.1 s.2.1 s.2.2.1 s.2.2.2.1 s.2.2.2.2.1 s.2.2.2.2.2 false 0 false 0 n.1 n.2.1 n.2.2 f.1 f.2.1 f.2.2=some [wY (bN.tW (dv f) (p+2)) (bN.sW (dv (bif fZ.uI (dv (iO s)) (dv (iP s))==0 then(false,[],0)else n)) (p+2)),.s (.sc (.int .i64 0))]:=by
 have w:i64.wrap (p+2)=p+2:=wrap_i64;rw[aED,gP hs,aI];show aB (fZ.uI (dv (iO s)) (dv (iP s))==0) _ _=_
 by_cases c:fZ.uI (dv (iO s)) (dv (iP s))=0
 ·rw[show(fZ.uI (dv (iO s)) (dv (iP s))==0)=true from beq_iff_eq.2 c,cond_true]at hn ⊢;show Pz _ _ _ _ _ _ _ _ _ _=_;rw[wW];simp only[w,aI];exact(gP hf).trans ((gP hn).trans rfl)
 ·rw[show(fZ.uI (dv (iO s)) (dv (iP s))==0)=false from beq_eq_false_iff_ne.2 c,cond_false]at hn ⊢;show bDD _ _ _ _ _ _ _ _ _ _ _=_;rw[aWN];simp only[w,aI];exact(gP hf).trans ((gP hn).trans rfl)
theorem spec:fN E f116 aE Ae (pN .i64) sp:=by
 rintro s p ⟨h1,h2,h3⟩;refine(start s.1 s.2.1 s.2.2.1 s.2.2.2.1 s.2.2.2.2.1 s.2.2.2.2.2 p).trans ?_;have ab:∀x:gW,aU x->aU (aBH x):=fun x hx=>⟨⟨hx.1.1,fun hf=>(by cases hf),hx.1.len⟩,hx.2⟩
 refine(gP h1).trans ((gP ⟨ab _ h1.2.1.1,ab _ h1.2.1.2.1⟩).trans ?_);rw[aI];unfold sp;unfold Bt uZ at *;dsimp only;show aB (decide (0<eZ (dv (aBH (iO s))) (dv (aBH (iP s))))) _ _=_
 by_cases c:0<eZ (dv (aBH (iO s))) (dv (aBH (iP s)))
 ·rw[aM c];rw[decide_eq_true c,cond_true,cond_true]at *;exact JN h1.1 h1.2.1 h2 h3
 ·rw[aL c];rw[decide_eq_false c,cond_false,cond_false]at *;exact JN h1.1 h1.2.1 h2 h3
def aJ:dJ:=orc2 Ae (pN .i64) sp
theorem ok:OK 116 aJ:=(dY E aE (aA Jh.ok (aA Jj.ok (aA Ku.ok (aA fZ.ok (aA bN.ok aC))))) func116).lD rfl spec
end cV
namespace nQ
def E:=mE [(156,Jh.aJ),(157,fV.aJ)] 27 [9] [] []
def aE:=bd f115
theorem aT:Nk E aE:=nk
theorem start a c d e f g b:aF E f115 aE [D.agg [sc (bool a),ints u64 c,sc (int i64 d),sc (bool e),ints u64 f,sc (int i64 g)],D.s (sc (int i64 b))]=letI F:=(a,c,d,e,f,g);letI A:=i64.wrap (b+2);letI C:=fV.Ms (dv (e,f,g)) A;letI B:=fV.Mr (dv (a,c,d)) A;aN ((1<=b/\b<=67000)/\fD F/\tA.Rt (iO F)/\tA.Rt (iP F)) (aN (fV.aTF (a,c,d) A) (aD (isNeg B.fst) fun h=>aD (M6.dg B.fst.natAbs) fun i=>aD B.snd fun j=>aN (fV.aTF (e,f,g) A) (aD (isNeg C.fst) fun k=>aD (M6.dg C.fst.natAbs) fun l=>aD C.snd fun m=>some [D.agg [sc (bool h),ints u64 i,sc (int i64 j),sc (bool k),ints u64 l,sc (int i64 m)],D.s (sc (int i64 0))]))):=eJ aT
def Xn(s:yM)(p:Int):Prop:=((1<=p/\p<=67000)/\fD s/\tA.Rt (iO s)/\tA.Rt (iP s))/\(fV.sp (iO s) (p+2)).1/\(fV.sp (iP s) (p+2)).1
def sp(s:yM)(p:Int):Prop×List D:=(Xn s p,[wY (fV.Mr (dv (iO s)) (p+2)) (fV.Ms (dv (iP s)) (p+2)),.s (.sc (.int .i64 0))])
theorem spec:fN E f115 aE Ae (pN .i64) sp:=by
 rintro s p ⟨h1,h2,h3⟩;have p0:=h1.1;refine(start s.1 s.2.1 s.2.2.1 s.2.2.2.1 s.2.2.2.2.1 s.2.2.2.2.2 p).trans ?_;have w:i64.wrap (p+2)=p+2:=wrap_i64;simp only[w];rw[gP h1];simp only[aI];exact(gP h2).trans ((gP h3).trans rfl)
def aJ:dJ:=orc2 Ae (pN .i64) sp
theorem ok:OK 115 aJ:=(dY E aE (aA Jh.ok (aA fV.ok aC)) func115).lD rfl spec
end nQ
end W
namespace R
def fv(fn:Int)(x:Rat)(k:Int):Rat:=if fn=1 then Sf x k else if fn=2 then Cf x k else Sf x k/Cf x k
end R
namespace M
open Go AI W
def mg(p:Int):Rat:=if p<2500 then 0 else R.pz (-p-1500)
theorem aXJ(p:Int):0<=mg p:=by
 unfold mg;split
 ·exact cID
 ·exact cGW (R.dU _)
theorem aXK(p:Int):mg p<=R.pz (-p-1500):=by
 unfold mg;split
 ·exact cGW (R.dU _)
 ·exact cID
structure mF(u v:Int×Int)(a:Rat)(p:Int):Prop where
 pu:kQ u
 pv:kQ v
 a0:R.pz (-1074)<=a
 a1:a<=79/100
 lu:R.ab (R.qz u)<=a
 lv:a<=R.ab (R.qz v)
 wd:R.ab (R.qz v)-R.ab (R.qz u)<=R.pz (-p-23)*a
theorem aZF{p:Int}(hp:-6<=p):R.pz (-p-23)<=1/131072:=by
 have:=R.cY (show -p-23<=-17 by omega);have e:=R.fU 0 (n:=17) (c:=131072) (by norm_cast);rw[R.fM,show(0:Int)-((17:Nat):Int)=-17 by rfl]at e;grind
theorem mF.more{u v:Int×Int}{a:Rat}{p:Int}(h:mF u v a p)(hp:-6<=p):0<a/\3/4*a<=R.ab (R.qz u)/\R.ab (R.qz v)<=5/4*a/\R.ab (R.qz v)<=4/5/\u.1≠0/\v.1≠0/\-1075<=bA u/\-1075<=bA v:=by
 obtain⟨_,_,a0,a1,lu,lv,wd⟩:=h;have ap:0<a:=by have:=R.dU (-1074);grind
 have bUR:=aZF hp;have m:=R.aG (cGW ap) (show 0<=1/131072-R.pz (-p-23) by grind);have u1:3/4*a<=R.ab (R.qz u):=by grind
 have aEK:u.1≠0:=Jy (by intro hz;rw[hz,R.bS cID]at u1;grind);have aKG:v.1≠0:=Jy (by intro hz;rw[hz,R.bS cID]at lv;grind);have t:R.pz (-1075)*2=R.pz (-1074):=by have:=R.oJ (-1074);rw[show(-1074:Int)-1=-1075 by rfl]at this;exact this
 have tp:=R.dU (-1075);exact⟨ap,u1,by grind,by grind,aEK,aKG,Ej aEK (by grind),Ej aKG (by grind)⟩
theorem aMR{u v:Int×Int}{a:Rat}{p n:Int}(h:mF u v a p)(hp:-6<=p/\p<=66000)(hn:p+14<=n/\n<=p+150/\1<=n):bEM u n/\bEM v n/\Bx (fV.vQ u n,fV.uH v n) (R.sn a) (R.pz (-p-12)*R.ab (R.sn a)) (mg p):=by
 obtain⟨ap,u1,v1,v2,aEK,aKG,tu,tv⟩:=h.more hp.1;obtain⟨pu,pv,a0,a1,lu,lv,wd⟩:=h;have nu:=Xq pu aEK (p:=n) (by grind) (by omega) (by omega);have nv:=Xq pv aKG (p:=n) (by grind) (by omega) (by omega);refine⟨nu,nv,nu.pl,nv.ph,cCL nu.bl (by decide),cCL nv.bh (by decide),aXJ p,?_,?_,?_⟩
 ·dsimp only;have h1:=nu.lo;have h2:=R.aEV (x:=R.ab (R.qz u)) (y:=a) (by rw[R.bS (R.aO _)];grind) (by rw[R.bS (by grind)];grind) lu;have h3:=aXK p;have h4:R.pz (-p-1500)<=R.pz (bA u-n-270):=R.cY (by omega);grind
 ·dsimp only;have h2:=R.aEV (x:=a) (y:=R.ab (R.qz v)) (by rw[R.bS (by grind)];grind) (by rw[R.bS (R.aO _)];grind) lv;unfold mg;split
  ·have:=nv.hi;grind
  ·have:=nv.mh (by omega);have h4:R.pz (-p-1500)<=R.pz (bA v-n-270):=R.cY (by omega);grind
 ·dsimp only;have k1:=nu.wd;have k2:=nv.wd;have k3:=nu.hi;have k4:=nv.lo;have pz1:=R.dU (bA v-n-270);have bMD:=R.aEW (x:=R.ab (R.qz u)) (y:=R.ab (R.qz v)) (by rw[R.bS (R.aO _)];grind) (by rw[R.bS (R.aO _)];grind);rw[R.bS (show 0<=R.ab (R.qz v)-R.ab (R.qz u) by grind)]at bMD;have l2:=R.Dz (R.sn (R.ab (R.qz v))-R.sn (R.ab (R.qz u)));obtain⟨s1,s2⟩:=R.aEY (cGW ap) (show a<=4/5 by grind);rw[R.bS (show 0<=R.sn a by grind)];have bER:=R.cY (show -n-1<=-p-15 by omega);have k1:=cGU k1 (cQV bER (R.aO (R.qz u)));have k2:=cGU k2 (cQV bER (R.aO (R.qz v)));have bQG:R.pz (-p-15)=256*R.pz (-p-23):=by
   have:=R.fU (-p-15) (n:=8) (c:=256) (by norm_cast);rw[show -p-15-((8:Nat):Int)=-p-23 by omega]at this;grind
  have bIN:R.pz (-p-12)=2048*R.pz (-p-23):=by
   have:=R.fU (-p-12) (n:=11) (c:=2048) (by norm_cast);rw[show -p-12-((11:Nat):Int)=-p-23 by omega]at this;grind
  have zp:=R.dU (-p-23);rw[bQG]at k1 k2;rw[bIN];generalize R.pz (-p-23)=z at *;have m1:=R.aG (cGW zp) (show 0<=5/4*a-R.ab (R.qz v) by grind);have m2:=R.aG (cGW zp) (show 0<=a-R.ab (R.qz u) by grind);have m3:=R.aG (cGW zp) (show 0<=R.sn a-4/5*a by grind);have m4:=R.aG (cGW zp) (cGW ap);grind
theorem bBW{n:Nat}(h:n<=1048576):R.xR<=R.pz (-(n:Int)):=by
 rw[R.yY];exact R.De h
theorem bCB{u v:Int×Int}{a:Rat}{p n:Int}(h:mF u v a p)(hp:-6<=p/\p<=66000)(hn:p+14<=n/\n<=p+150/\1<=n):bLG u n/\bLG v n/\Bx (bN.tW v n,bN.sW u n) (R.cs a) (R.pz (-p-12)*R.ab (R.cs a)) (mg p):=by
 obtain⟨ap,u1,v1,v2,aEK,aKG,tu,tv⟩:=h.more hp.1;obtain⟨pu,pv,a0,a1,lu,lv,wd⟩:=h;have nu:=Ow (x:=u) (p:=n) (by grind) (fun _=>by omega) (by omega);have nv:=Ow (x:=v) (p:=n) (by grind) (fun _=>by omega) (by omega);have he:2*R.xR<=R.pz (-p-1501):=by
  have:=bBW (n:=100000) (by omega);have h2:=R.cY (show -((100000:Nat):Int)+1<=-p-1501 by omega);rw[R.kF]at h2;grind
 have e1500:R.pz (-p-1500)=2*R.pz (-p-1501):=by rw[<-R.kF];congr 1;omega
 have pp:=R.dU (-p-1501);have m1:=R.aHE (x:=R.ab (R.qz u)) (y:=a) (R.aO _) lu (by grind);have m2:=R.aHE (x:=a) (y:=R.ab (R.qz v)) (cGW ap) lv (by grind);have mm:=aXK p;obtain⟨c1,c2⟩:=R.Zt (r:=a) (by rw[R.bS (cGW ap)];grind);refine⟨nu,nv,nv.pl,nu.ph,cCL nv.bl (by decide),cCL nu.bh (by decide),aXJ p,?_,?_,?_⟩
 ·dsimp only;have:=nv.ml aKG;have h4:R.pz (-p-1499)<=R.pz (bA v-n-270):=R.cY (by omega);have bIM:R.pz (-p-1499)=2*R.pz (-p-1500):=by rw[<-R.kF];congr 1;omega
  grind
 ·dsimp only
  by_cases c:2*bA u+8 < -n
  ·have e:bN.sW u n=(1,0):=by
    have et:aW.jO u=bA u:=by unfold aW.jO bA;rw[if_neg aEK]
    unfold bN.sW;rw[et,if_neg aEK,if_pos c]
   unfold mg;rw[aR,e,qT];grind
  ·have:=nu.mh aEK c;have h4:R.pz (-p-1499)<=R.pz (bA u-n-270):=R.cY (by omega);have bIM:R.pz (-p-1499)=2*R.pz (-p-1500):=by rw[<-R.kF];congr 1;omega
   grind
 ·dsimp only;have k1:=nu.wd;have k2:=nv.wd;have k3:=nu.lo;have k4:=nv.hi;have bMD:=R.aQN (x:=R.ab (R.qz u)) (y:=R.ab (R.qz v)) (by rw[R.bS (R.aO _)];grind) (by rw[R.bS (R.aO _)];grind);rw[R.bS (show 0<=R.ab (R.qz v)-R.ab (R.qz u) by grind)]at bMD;have l2:=R.oV (R.cs (R.ab (R.qz v))-R.cs (R.ab (R.qz u)));rw[R.bS (show 0<=R.cs a by grind)];have bER:=R.cY (show -n-1<=-p-15 by omega);have k1:=cGU k1 bER;have k2:=cGU k2 bER;have bQG:R.pz (-p-15)=256*R.pz (-p-23):=by
   have:=R.fU (-p-15) (n:=8) (c:=256) (by norm_cast);rw[show -p-15-((8:Nat):Int)=-p-23 by omega]at this;grind
  have bIN:R.pz (-p-12)=2048*R.pz (-p-23):=by
   have:=R.fU (-p-12) (n:=11) (c:=2048) (by norm_cast);rw[show -p-12-((11:Nat):Int)=-p-23 by omega]at this;grind
  have zp:=R.dU (-p-23);have h5:R.pz (-p-1501)<=R.pz (-p-23):=R.cY (by omega);rw[bQG]at k1 k2;rw[bIN];generalize R.pz (-p-23)=z at *;have m3:=R.aG (cGW zp) (show 0<=R.cs a-17/25 by grind);have m4:=R.aG (cGW zp) (show 0<=1-a by grind);grind
def rS(x:Int×Int)(w q:Int):(Int×Int)×(Int×Int):=(fV.Mr (aZ.aBE x w) q,fV.Ms (aZ.aBF x w) q)
def bDQ(x:Int×Int)(w:Int):yM:=nU (aZ.aBE x w) (aZ.aBF x w)
def rC(x:Int×Int)(w q:Int):(Int×Int)×(Int×Int):=(bN.tW (dv (cV.Bt (bDQ x w))) q,bN.sW (dv (cV.uZ (bDQ x w))) q)
def sG(x:Int×Int)(w q:Int):((Int×Int)×(Int×Int))×((Int×Int)×(Int×Int)):=VTurned.trn (rS x w q) (rC x w q) (aZ.cQ x w).toNat
def rQ (x : Int × Int) (w p : Int) : (Int × Int) × (Int × Int) :=
  (aQ (jR.My (p + 8) (sG x w (p + 2)).1.1 (sG x w (p + 2)).1.2 (sG x w (p + 2)).2.1 (sG x w (p + 2)).2.2).1 (jR.My (p + 8) (sG x w (p + 2)).1.1 (sG x w (p + 2)).1.2 (sG x w (p + 2)).2.1 (sG x w (p + 2)).2.2).2,
   aQ (jR.Mz (p + 8) (sG x w (p + 2)).1.1 (sG x w (p + 2)).1.2 (sG x w (p + 2)).2.1 (sG x w (p + 2)).2.2).1 (jR.Mz (p + 8) (sG x w (p + 2)).1.1 (sG x w (p + 2)).1.2 (sG x w (p + 2)).2.1 (sG x w (p + 2)).2.2).2)
def rE(fn:Int)(x:Int×Int)(w p:Int):(Int×Int)×(Int×Int):=bif fn==1 then(sG x w (p+2)).1 else bif fn==2 then(sG x w (p+2)).2 else rQ x w p
theorem aEQ{x:Int×Int}(h:x.1≠0):aW.jO x=bA x:=by unfold aW.jO bA;rw[if_neg h]
theorem aWV{x:gW}{p:Int}(hx:aU x)(hp:1<=p/\p<=67100)(ht:-1200<=bA (dv x))(n:bEM (dv x) p):fV.aTF x p:=by
 refine⟨hx,hp,fun h0=>?_⟩;rw[aEQ h0];refine⟨by omega,n.pl,n.ph,mD.2 ?_,n.bLV,n.okB⟩;have h1:=n.lo;have h2:=n.hi;have h3:=R.dU (bA (dv x)-p-270);grind
theorem aYF{x:gW}{p:Int}(hx:aU x)(hp:1<=p/\p<=67100)(ht:(dv x).1≠0->-1200<=bA (dv x))(n:bLG (dv x) p):bN.aJO x p:=by
 refine⟨hx,hp,fun h0=>?_⟩;have:=ht h0;rw[aEQ h0];exact⟨by omega,n.bLV h0,n.okB h0⟩
theorem Vo(a b:Int×Int):dv (cV.aBH (iO (nU a b)))=((a.1.natAbs:Int),a.2):=by
 show((M6.val (M6.dg a.1.natAbs):Int),a.2)=_;rw[M6.bD]
theorem Vp(a b:Int×Int):dv (cV.aBH (iP (nU a b)))=((b.1.natAbs:Int),b.2):=by
 show((M6.val (M6.dg b.1.natAbs):Int),b.2)=_;rw[M6.bD]
theorem Wd{x:gW}(hx:aU x):aU (cV.aBH x):=⟨⟨hx.1.1,fun hf=>(by cases hf),hx.1.len⟩,hx.2⟩
theorem uQ(p:Int×Int):R.ab (R.qz ((p.1.natAbs:Int),p.2))=R.ab (R.qz p):=by rw[Em,R.bS (R.aO _)]
theorem Zk{a b:Int×Int}(hs:fZ.uI a b≠0)(ha:kQ a)(hb:kQ b) :
  (aU (cV.Bt (nU a b))/\aU (cV.uZ (nU a b))) /\
  ((R.ab (R.qz b)<R.ab (R.qz a)/\dv (cV.Bt (nU a b))=((a.1.natAbs:Int),a.2)/\dv (cV.uZ (nU a b))=((b.1.natAbs:Int),b.2)) \/
  (R.ab (R.qz a)<=R.ab (R.qz b)/\dv (cV.Bt (nU a b))=((b.1.natAbs:Int),b.2)/\dv (cV.uZ (nU a b))=((a.1.natAbs:Int),a.2))):=by
 have oa:aU (iO (nU a b)):=dW ha;have ob:aU (iP (nU a b)):=dW hb;unfold cV.Bt cV.uZ;rw[qF,qG,show(fZ.uI a b==0)=false from beq_eq_false_iff_ne.2 hs,cond_false,Vo,Vp];have hc:=zM (p:=((a.1.natAbs:Int),a.2)) (q:=((b.1.natAbs:Int),b.2));rw[Em,Em]at hc
 by_cases h:R.ab (R.qz b)<R.ab (R.qz a)
 ·rw[decide_eq_true (hc.2 h),cond_true,cond_true,Vo,Vp];exact⟨⟨Wd oa,Wd ob⟩,Or.inl ⟨h,rfl,rfl⟩⟩
 ·rw[decide_eq_false (fun hh=>h (hc.1 hh)),cond_false,cond_false,Vo,Vp];exact⟨⟨Wd ob,Wd oa⟩,Or.inr ⟨Rat.not_lt.1 h,rfl,rfl⟩⟩
theorem aTD{a:Int×Int}{x:gW}(hx:aU x)(e:dv x=a)(h1:R.ab (R.qz a)<=1)(ht:a.1≠0->-1200<=bA a):tA.Rt x:=by
 refine⟨hx,fun h0=>?_⟩;rw[e]at h0 ⊢;have:=ht h0;refine⟨mD.2 (by rw[Em,qT];exact h1),?_⟩;unfold bA at this;omega
structure cBJ(x:Int×Int)(p:Int)(r:Rat):Prop where
 so:nQ.Xn (bDQ x (p+80)) (p+12)
 co:cV.aDH (bDQ x (p+80)) (p+12)
 s:Bx (rS x (p+80) (p+14)) (R.sn r) (R.pz (-p-12)*R.ab (R.sn r)) (mg p)
 c:Bx (rC x (p+80) (p+14)) (R.cs r) (R.pz (-p-12)*R.ab (R.cs r)) (mg p)
 s1:R.ab (R.qz (rS x (p+80) (p+14)).1)<=1/\R.ab (R.qz (rS x (p+80) (p+14)).2)<=1
 c1:R.ab (R.qz (rC x (p+80) (p+14)).1)<=1/\R.ab (R.qz (rC x (p+80) (p+14)).2)<=1
theorem aOB{s:(Int×Int)×(Int×Int)}{V W m:Rat}(h:Bx s V W m)(h1:-1<=R.qz s.1)(h2:R.qz s.2<=1):R.ab (R.qz s.1)<=1/\R.ab (R.qz s.2)<=1:=by
 have:=h.lo;have:=h.hi;have:=h.m0;constructor <;> (rw[R.cK];constructor <;> grind)
def gS(l h:Int×Int)(q:Int):(Int×Int)×(Int×Int):=(fV.Mr l q,fV.Ms h q)
def gC(l h:Int×Int)(q:Int):(Int×Int)×(Int×Int):=(bN.tW (dv (cV.Bt (nU l h))) q,bN.sW (dv (cV.uZ (nU l h))) q)
structure bQP(l h:Int×Int)(p n:Int)(r:Rat):Prop where
 so:nQ.Xn (nU l h) (n-2)
 co:cV.aDH (nU l h) (n-2)
 s:Bx (gS l h n) (R.sn r) (R.pz (-p-12)*R.ab (R.sn r)) (mg p)
 c:Bx (gC l h n) (R.cs r) (R.pz (-p-12)*R.ab (R.cs r)) (mg p)
 s1:R.ab (R.qz (gS l h n).1)<=1/\R.ab (R.qz (gS l h n).2)<=1
 c1:R.ab (R.qz (gC l h n).1)<=1/\R.ab (R.qz (gC l h n).2)<=1
theorem aLS{l h:Int×Int}{p n:Int}{r:Rat}(hp:-6<=p/\p<=66000)(hn:p+14<=n/\n<=p+150/\3<=n)(pl:kQ l)(ph:kQ h)(lo:R.qz l<=r)(hi:r<=R.qz h)(wd:R.qz h-R.qz l<=R.pz (-p-23)*R.ab r)(rg:R.pz (-1074)<=R.ab r)(nl:R.ab r<=79/100):bQP l h p n r:=by
 have aCN:p+14<=n/\n<=p+150/\1<=n:=by omega
 have bUR:=aZF hp.1;have rp:0<R.ab r:=by have:=R.dU (-1074);grind
 have m:=R.aG (cGW rp) (show 0<=1/131072-R.pz (-p-23) by grind);have tok:∀q:Int,q=n-2->(1<=q/\q<=67000):=fun q hq=>by omega
 have oa:aU (iO (nU l h)):=dW pl;have ob:aU (iP (nU l h)):=dW ph;have ea:dv (iO (nU l h))=l:=qF _ _;have eb:dv (iP (nU l h))=h:=qG _ _;have sk:fD (nU l h):=yW pl ph (mD.2 (by grind));have aKY:n-2+2=n:=by omega
 have fin:∀(a:Rat),a=R.ab r->R.ab (R.qz l)<=4/5->R.ab (R.qz h)<=4/5 ->
   (l.1≠0/\-1075<=bA l)->(h.1≠0/\-1075<=bA h) ->
   bEM l n->bEM h n ->
   mF (dv (cV.uZ (nU l h))) (dv (cV.Bt (nU l h))) a p->aU (cV.Bt (nU l h))->aU (cV.uZ (nU l h)) ->
   Bx (gS l h n) (R.sn r) (R.pz (-p-12)*R.ab (R.sn r)) (mg p)->-1<=R.qz (gS l h n).1->R.qz (gS l h n).2<=1->bQP l h p n r:=by
  intro a ha l1 l2 t1 t2 n1 n2 par of on bs b1 b2;obtain⟨cu,cv,cb⟩:=bCB par hp aCN;obtain⟨_,_,_,_,_,_,tu,tv⟩:=par.more hp.1;have ec:R.cs a=R.cs r:=by rw[ha];exact R.aQO r
  rw[ec]at cb;refine⟨⟨⟨tok _ rfl,sk,aTD oa ea (by grind) (fun _=>by omega),aTD ob eb (by grind) (fun _=>by omega)⟩,?_,?_⟩,⟨⟨tok _ rfl,sk,aTD oa ea (by grind) (fun _=>by omega),aTD ob eb (by grind) (fun _=>by omega)⟩,?_,?_⟩,bs,cb,aOB bs b1 b2,aOB cb ?_ cu.one⟩
  ·rw[aKY];exact aWV oa (by omega) (by rw[ea];omega) (by rw[ea];exact n1)
  ·rw[aKY];exact aWV ob (by omega) (by rw[eb];omega) (by rw[eb];exact n2)
  ·rw[aKY];exact aYF of (by omega) (fun _=>by omega) cv
  ·rw[aKY];exact aYF on (by omega) (fun _=>by omega) cu
  ·have h1:=cb.wd;have h2:=cb.hi;have h3:=cb.m0;obtain⟨c1,c2⟩:=R.Zt (r:=r) (by grind);rw[R.bS (show 0<=R.cs r by grind)]at h1;have z12:R.pz (-p-12)<=1:=by rw[<-R.fM];exact R.cY (by omega)
   have:=R.aG (show 0<=R.cs r by grind) (show 0<=1-R.pz (-p-12) by grind);show -1<=R.qz (bN.tW (dv (cV.Bt (nU l h))) n);dsimp only at h1 h2;grind
 have t75:R.pz (-1075)*2=R.pz (-1074):=by have:=R.oJ (-1074);rw[show(-1074:Int)-1=-1075 by rfl]at this;exact this
 by_cases c:0<r
 ·have er:R.ab r=r:=R.bS (cGW c);rw[er]at nl wd rg rp m;have al:R.ab (R.qz l)=R.qz l:=R.bS (by grind);have ah:R.ab (R.qz h)=R.qz h:=R.bS (by grind);have par:mF l h r p:=⟨pl,ph,rg,nl,by rw[al];exact lo,by rw[ah];exact hi,by rw[al,ah];exact wd⟩;obtain⟨_,_,_,v2,aEK,aKG,tu,tv⟩:=par.more hp.1;obtain⟨nu,nv,bs⟩:=aMR par hp aCN;have sg:fZ.uI l h≠0:=by rw[Mu (by grind) (by grind)];decide
  obtain⟨⟨of,on⟩,hd⟩:=Zk sg pl ph;have n1:isNeg l.1=false:=gH.2 (by have:=kO.1 (show 0<R.qz l by grind);omega);have n2:isNeg h.1=false:=gH.2 (by have:=kO.1 (show 0<R.qz h by grind);omega);have eS:gS l h n=(fV.vQ l n,fV.uH h n):=by
   unfold gS fV.Mr fV.Ms;rw[if_neg aEK,if_neg aKG,n1,n2];rfl
  refine fin r er.symm (by grind) (by grind) ⟨aEK,tu⟩ ⟨aKG,tv⟩ nu nv ?_ of on (by rw[eS];exact bs) ?_ ?_
  ·rcases hd with ⟨d1,d2,d3⟩ |⟨d1,d2,d3⟩
   ·grind
   ·show mF (dv (cV.uZ (nU _ _))) (dv (cV.Bt (nU _ _))) r p;rw[d2,d3];exact⟨zA pl,zA ph,rg,nl,by rw[uQ,al];exact lo,by rw[uQ,ah];exact hi,by rw[uQ,uQ,al,ah];exact wd⟩
  ·rw[eS];have:=nu.pos;dsimp only;grind
  ·rw[eS];exact nv.one
 ·have er:R.ab r=-r:=by
   unfold R.ab
   by_cases hr:0<=r
   ·have:r=0:=by grind
    rw[this,R.bS cID]at rp;grind
   ·rw[if_neg hr]
  rw[er]at nl wd rg rp m;have al:R.ab (R.qz l)=-R.qz l:=by rw[<-R.iZ];exact R.bS (by grind)
  have ah:R.ab (R.qz h)=-R.qz h:=by rw[<-R.iZ];exact R.bS (by grind)
  have par:mF h l (-r) p:=⟨ph,pl,rg,nl,by rw[ah];grind,by rw[al];grind,by rw[al,ah];grind⟩;obtain⟨_,_,_,v2,aEK,aKG,tu,tv⟩:=par.more hp.1;obtain⟨nu,nv,bs⟩:=aMR par hp aCN;have sg:fZ.uI l h≠0:=by rw[aBS (by grind)];decide
  obtain⟨⟨of,on⟩,hd⟩:=Zk sg pl ph;have n1:isNeg l.1=true:=kJ.2 (yX.1 (by grind));have n2:isNeg h.1=true:=kJ.2 (yX.1 (by grind));have eS:gS l h n=(lB.yB (fV.uH l n),lB.yB (fV.vQ h n)):=by
   unfold gS fV.Mr fV.Ms;rw[if_neg aEK,if_neg aKG,n1,n2];rfl
  have bn:=bs.neg;have es:-R.sn (-r)=R.sn r:=by rw[R.xK];grind
  have cAT:R.ab (R.sn (-r))=R.ab (R.sn r):=by rw[R.xK,R.iZ]
  rw[es,cAT]at bn;refine fin (-r) er.symm (by grind) (by grind) ⟨aKG,tv⟩ ⟨aEK,tu⟩ nv nu ?_ of on (by rw[eS];exact bn) ?_ ?_
  ·show mF (dv (cV.uZ (nU _ _))) (dv (cV.Bt (nU _ _))) (-r) p;rcases hd with ⟨d1,d2,d3⟩ |⟨d1,d2,d3⟩
   ·rw[d2,d3];exact⟨zA ph,zA pl,rg,nl,by rw[uQ,ah];grind,by rw[uQ,al];grind,by rw[uQ,uQ,al,ah];grind⟩
   ·rw[d2,d3];exact⟨zA pl,zA ph,rg,nl,by rw[uQ,al];grind,by rw[uQ,ah];grind,by rw[uQ,uQ,al,ah];grind⟩
  ·rw[eS];show -1<=R.qz (-(fV.uH l n).1,(fV.uH l n).2);rw[nV];have:=nv.one;grind
  ·rw[eS];show R.qz (-(fV.vQ h n).1,(fV.vQ h n).2)<=1;rw[nV];have:=nu.pos;grind
theorem aYS{x:Int×Int}{p k:Int}(hp:1<=p/\p<=66000)(h:bCT x (p+80) k):cBJ x p (R.qz x-(k:Rat)*(R.pi/2)):=by
 have nl:=R.tF h.aCD;obtain⟨_,_,pl,ph,lo,hi,wd,rg⟩:=h;rw[show 57-(p+80)=-p-23 by omega]at wd;obtain⟨a,b,c,d,e,f⟩:=aLS (n:=p+14) ⟨by omega,hp.2⟩ (by omega) pl ph lo hi wd rg nl;rw[show p+14-2=p+12 by omega]at a b;exact⟨a,b,c,d,e,f⟩
end M
namespace M
open Go AI W
theorem Ua{up:Bool}{p:Int×Int}{n:Int}(hn:1<=n)(h:R.ab (R.qz p)<=1):R.ab (R.qz (shD up p n))<=1:=by
 unfold shD cX.oY;rw[pD];split
 ·exact h
 ·rename_i hk;dsimp only;have h0:p.1≠0:=by
   intro hz;rw[hz]at hk;exact hk (by show(bl 0:Int)-n<=0;rw[Vw];omega)
  have ht:=Fu h0 (by rw[R.fM];exact h);unfold bA at ht;obtain⟨k,Yy⟩:=cGR (show 0<=(bl p.1.natAbs:Int)-n by omega);rw[Yy,cFM];obtain⟨j,hj⟩:=cGR (show 0<=-(p.2+(k:Int)) by omega);have hz:p.1.natAbs<=2^j*2^k:=by
   rw[Th]at h;rw[<-cGP];have e1:R.pz p.2*((2^(j+k):Nat):Rat)=1:=by rw[<-R.eN,show p.2+((j+k:Nat):Int)=0 by omega,R.fM]
   have P:(0:Rat)<=((2^(j+k):Nat):Rat):=by exact_mod_cast cHS _
   have m:=R.aG P (show 0<=1-(p.1.natAbs:Rat)*R.pz p.2 by grind);have:(p.1.natAbs:Rat)<=((2^(j+k):Nat):Rat):=by
    have e2:((2^(j+k):Nat):Rat)*((p.1.natAbs:Rat)*R.pz p.2)=(p.1.natAbs:Rat):=by
     rw[Rat.mul_comm,cMZ,e1];grind
    grind
   exact_mod_cast this
  have hp:(0:Int)<((2^k:Nat):Int):=by have:=cEP (n:=k) (show 0<2 by decide);omega
  have bRT:(p.1.natAbs:Int)<=((2^j:Nat):Int)*((2^k:Nat):Int):=by exact_mod_cast hz
  have hc:-((2^j:Nat):Int)<=lH.qW up p.1 k/\lH.qW up p.1 k<=((2^j:Nat):Int):=by
   have fl:∀w:Int,(w.natAbs:Int)<=((2^j:Nat):Int)*((2^k:Nat):Int)->-((2^j:Nat):Int)<=w/((2^k:Nat):Int)/\w/((2^k:Nat):Int)<=((2^j:Nat):Int):=by
    intro w hw;constructor
    ·refine Int.le_ediv_of_mul_le hp ?_;rw[Int.neg_mul];omega
    ·exact Int.ediv_le_of_le_mul hp (by omega)
   unfold lH.qW;cases up with
   |false=>rw[cond_false];exact fl _ bRT
   |true =>
    rw[cond_true];have:=fl (-p.1) (by rw[cIJ];exact bRT);omega
  generalize lH.qW up p.1 k=c at *;have e1:R.pz (p.2+(k:Int))*((2^j:Nat):Rat)=1:=by rw[<-R.eN,show p.2+(k:Int)+(j:Int)=0 by omega,R.fM]
  have pp:=R.dU (p.2+(k:Int));have c1:-((2^j:Nat):Rat)<=(c:Rat):=by
   have:((-((2^j:Nat):Int):Int):Rat)<=(c:Rat):=by exact_mod_cast hc.1
   rwa [cOO,cNB]at this
  have c2:(c:Rat)<=((2^j:Nat):Rat):=by
   have:(c:Rat)<=(((2^j:Nat):Int):Rat):=by exact_mod_cast hc.2
   rwa [cNB]at this
  have m1:=R.aG (cGW pp) (show 0<=(c:Rat)+((2^j:Nat):Rat) by grind);have m2:=R.aG (cGW pp) (show 0<=((2^j:Nat):Rat)-(c:Rat) by grind);rw[R.cK];constructor <;> grind
def On(s:(Int×Int)×(Int×Int)):Prop:=R.ab (R.qz s.1)<=1/\R.ab (R.qz s.2)<=1
theorem On.neg{s:(Int×Int)×(Int×Int)}(h:On s):On (lB.yB s.2,lB.yB s.1):=by
 constructor
 ·show R.ab (R.qz (-s.2.1,s.2.2))<=1;rw[nV,R.iZ];exact h.2
 ·show R.ab (R.qz (-s.1.1,s.1.2))<=1;rw[nV,R.iZ];exact h.1
theorem On.trn{s c:(Int×Int)×(Int×Int)}(hs:On s)(hc:On c):∀n:Nat,On (VTurned.trn s c n).1/\On (VTurned.trn s c n).2:=by
 intro n
 induction n generalizing s c with
 |zero=>exact⟨hs,hc⟩
 |succ n ih=>exact ih hc hs.neg
theorem Iy{s:(Int×Int)×(Int×Int)}{V ρ m:Rat}(h:Bx s V (ρ*R.ab V) m)(r1:ρ<=1/64)(V0:V≠0) :
  63/64*R.ab V<=R.ab (R.qz s.1)/\R.ab (R.qz s.1)<=65/64*R.ab V/\63/64*R.ab V<=R.ab (R.qz s.2)/\R.ab (R.qz s.2)<=65/64*R.ab V/\(0<V->0<R.qz s.1)/\(V<0->R.qz s.2<0)/\0<R.ab V:=by
 obtain⟨_,_,_,_,m0,lo,hi,wd⟩:=h;have a0:0<R.ab V:=by
  unfold R.ab;split <;> grind
 have k:=R.aG (cGW a0) (show 0<=1/64-ρ by grind);generalize hρ:ρ*R.ab V=W at *
 by_cases c:0<V
 ·have e:R.ab V=V:=R.bS (cGW c);rw[e]at a0 k hρ;rw[e];rw[R.bS (show 0<=R.qz s.1 by grind),R.bS (show 0<=R.qz s.2 by grind)];refine⟨by grind,by grind,by grind,by grind,fun _=>by grind,fun _=>by grind,c⟩
 ·have e:R.ab V=-V:=by unfold R.ab;rw[if_neg (by grind)]
  rw[e]at a0 k hρ;rw[e];rw[<-R.iZ,R.bS (show 0<=-R.qz s.1 by grind),<-R.iZ,R.bS (show 0<=-R.qz s.2 by grind)];refine⟨by grind,by grind,by grind,by grind,fun _=>by grind,fun _=>by grind,by grind⟩
theorem yI{s:(Int×Int)×(Int×Int)}{V W W' m:Rat}(h:Bx s V W m)(hw:W<=W'):Bx s V W' m:=by
 obtain⟨a,b,c,d,e,f,g,i⟩:=h;exact⟨a,b,c,d,e,f,g,cGU i hw⟩
def eE(fn:Int)(x:Int×Int)(p:Int):(Int×Int)×(Int×Int):=(shD false (rE fn x (p+80) (p+12)).1 (p+20),shD true (rE fn x (p+80) (p+12)).2 (p+20))
structure bJK(fn:Int)(x:Int×Int)(p k:Int):Prop where
 so:nQ.Xn (bDQ x (p+80)) (p+12)
 co:cV.aDH (bDQ x (p+80)) (p+12)
 sS:fD (nU (rS x (p+80) (p+14)).1 (rS x (p+80) (p+14)).2)
 sC:fD (nU (rC x (p+80) (p+14)).1 (rC x (p+80) (p+14)).2)
 t1:fD (nU (sG x (p+80) (p+14)).1.1 (sG x (p+80) (p+14)).1.2)
 t2:fD (nU (sG x (p+80) (p+14)).2.1 (sG x (p+80) (p+14)).2.2)
 z:Kt (sG x (p+80) (p+14)).1.1/\Kt (sG x (p+80) (p+14)).1.2/\Kt (sG x (p+80) (p+14)).2.1/\Kt (sG x (p+80) (p+14)).2.2
 q0:fZ.uI (sG x (p+80) (p+14)).2.1 (sG x (p+80) (p+14)).2.2≠0
 q1:iN (jR.My (p+20) (sG x (p+80) (p+14)).1.1 (sG x (p+80) (p+14)).1.2 (sG x (p+80) (p+14)).2.1 (sG x (p+80) (p+14)).2.2).1 (jR.My (p+20) (sG x (p+80) (p+14)).1.1 (sG x (p+80) (p+14)).1.2 (sG x (p+80) (p+14)).2.1 (sG x (p+80) (p+14)).2.2).2=true
 q2:iN (jR.Mz (p+20) (sG x (p+80) (p+14)).1.1 (sG x (p+80) (p+14)).1.2 (sG x (p+80) (p+14)).2.1 (sG x (p+80) (p+14)).2.2).1 (jR.Mz (p+20) (sG x (p+80) (p+14)).1.1 (sG x (p+80) (p+14)).1.2 (sG x (p+80) (p+14)).2.1 (sG x (p+80) (p+14)).2.2).2=true
 re:fD (nU (rE fn x (p+80) (p+12)).1 (rE fn x (p+80) (p+12)).2)
 s1:yQ false (rE fn x (p+80) (p+12)).1 (p+20)=true
 s2:yQ true (rE fn x (p+80) (p+12)).2 (p+20)=true
 v0:R.fv fn (R.qz x) k≠0
 vl:R.pz (-1100)<=R.ab (R.fv fn (R.qz x) k)
 vh:R.ab (R.fv fn (R.qz x) k)<=R.pz 1090
 bx:Bx (eE fn x p) (R.fv fn (R.qz x) k) (R.pz (-p-8)*R.ab (R.fv fn (R.qz x) k)) (mg p)
 bits:(bl (eE fn x p).1.1.natAbs:Int)<=p+21/\(bl (eE fn x p).2.1.natAbs:Int)<=p+21
 ok:bV.kY (eE fn x p).2 (-(eE fn x p).1.1,(eE fn x p).1.2)=true
 thin:Hf.bDO (eE fn x p).1 (eE fn x p).2 p=true
 on:fn<=2->On (eE fn x p)
theorem vB{p:Int×Int}(h:0<R.ab (R.qz p)):p.1≠0:=Jy fun hz=>by rw[hz,R.bS cID]at h;exact Rat.lt_irrefl h
theorem aFH(k:Int)(s c:Rat):R.ab (R.rs k s c)=if k%2=0 then R.ab s else R.ab c:=by
 have h4:k%4=0\/k%4=1\/k%4=2\/k%4=3:=by omega
 unfold R.rs;rcases h4 with h |h |h |h
 ·have h2:k%2=0:=by omega
  simp[h,h2,R.iZ]
 ·have h2:k%2=1:=by omega
  simp[h,h2,R.iZ]
 ·have h2:k%2=0:=by omega
  simp[h,h2,R.iZ]
 ·have h2:k%2=1:=by omega
  simp[h,h2,R.iZ]
theorem aFM(k:Int)(s c:Rat):R.ab (R.rc k s c)=if k%2=0 then R.ab c else R.ab s:=by
 have h4:k%4=0\/k%4=1\/k%4=2\/k%4=3:=by omega
 unfold R.rc;rcases h4 with h |h |h |h
 ·have h2:k%2=0:=by omega
  simp[h,h2,R.iZ]
 ·have h2:k%2=1:=by omega
  simp[h,h2,R.iZ]
 ·have h2:k%2=0:=by omega
  simp[h,h2,R.iZ]
 ·have h2:k%2=1:=by omega
  simp[h,h2,R.iZ]
theorem xG{fn:Int}{x:Int×Int}{p k:Int}(hx:aEE x)(hp:1<=p/\p<=66000)(hf:1<=fn/\fn<=3)(h:bCT x (p+80) k):bJK fn x p k:=by
 obtain⟨so,co,bs,bc,os,oc⟩:=aYS hp h;have rn:=R.tF h.aCD;have rg:=h.rg;have hq:=h.q;obtain⟨r,hr⟩:∃r,r=R.qz x-(k:Rat)*(R.pi/2):=⟨_,rfl⟩;have bQB:R.Sf (R.qz x) k=R.rs k (R.sn r) (R.cs r):=by rw[hr];rfl
 have bQC:R.Cf (R.qz x) k=R.rc k (R.sn r) (R.cs r):=by rw[hr];rfl
 rw[<-hr]at bs bc rn rg;have t75:R.pz (-1075)*2=R.pz (-1074):=by have:=R.oJ (-1074);rw[show(-1074:Int)-1=-1075 by rfl]at this;exact this
 have bLQ:=R.dU (-1075);have bWB:R.pz (-1075)<=1/2:=by
  have:=R.cY (show(-1074:Int)<=0 by omega);rw[R.fM]at this;grind
 obtain⟨c1,c2⟩:=R.Zt (r:=r) (by grind);have s0:R.pz (-1075)<=R.ab (R.sn r)/\R.ab (R.sn r)<=1:=by
  rw[<-R.aMP (by grind)];obtain⟨a,b⟩:=R.aEY (R.aO r) (by grind);constructor <;> grind
 have s1:R.pz (-1075)<=R.ab (R.cs r)/\R.ab (R.cs r)<=1:=by
  rw[R.bS (show 0<=R.cs r by grind)];constructor <;> grind
 have sS:R.pz (-1075)<=R.ab (R.Sf (R.qz x) k)/\R.ab (R.Sf (R.qz x) k)<=1:=by
  rw[bQB,aFH];split <;> assumption
 have sC:R.pz (-1075)<=R.ab (R.Cf (R.qz x) k)/\R.ab (R.Cf (R.qz x) k)<=1:=by
  rw[bQC,aFM];split <;> assumption
 have Nl:∀v:Rat,R.pz (-1075)<=R.ab v->v≠0:=fun v hv hz=>by rw[hz,R.bS cID]at hv;grind
 have S0:=Nl _ sS.1;have C0:=Nl _ sC.1;obtain⟨z,hz⟩:∃z,z=R.pz (-p-20):=⟨_,rfl⟩;have z0:=R.dU (-p-20);rw[<-hz]at z0;have pw:∀(a:Int) (n:Nat) (c:Rat),a=-p-20+(n:Int)->((2^n:Nat):Rat)=c->R.pz a=c*z:=fun a n c ha hc=>by
  rw[ha,R.eN,hc,hz];grind
 have bIN:=pw (-p-12) 8 256 (by omega) (by norm_cast);have e8:=pw (-p-8) 12 4096 (by omega) (by norm_cast);have bLC:=pw (1-(p+20)) 1 2 (by omega) (by norm_cast);have bQF:=pw (2-(p+20)) 2 4 (by omega) (by norm_cast);have zs:z<=1/2097152:=by
  have:=R.cY (show -p-20<=-21 by omega);have e:=R.fU 0 (n:=21) (c:=2097152) (by norm_cast);rw[R.fM,show(0:Int)-((21:Nat):Int)=-21 by rfl]at e;grind
 obtain⟨b1,b2⟩:=Bx.trn bs bc (k:=k);have eT:sG x (p+80) (p+14)=VTurned.trn (rS x (p+80) (p+14)) (rC x (p+80) (p+14)) (k%4).toNat:=by unfold sG;rw[hq]
 rw[<-eT,<-bQB]at b1;rw[<-eT,<-bQC]at b2;have aZP:=On.trn os oc (k%4).toNat;rw[<-eT]at aZP;have b1:Bx (sG x (p+80) (p+14)).1 (R.Sf (R.qz x) k) (R.pz (-p-12)*R.ab (R.Sf (R.qz x) k)) (mg p):=by
  refine yI b1 ?_;rw[bQB,aFH];split <;> exact cID
 have b2:Bx (sG x (p+80) (p+14)).2 (R.Cf (R.qz x) k) (R.pz (-p-12)*R.ab (R.Cf (R.qz x) k)) (mg p):=by
  refine yI b2 ?_;rw[bQC,aFM];split <;> exact cID
 rw[bIN]at b1 b2;have bVC:=bs.Aw;have bVB:=bc.Aw;have n1:=Iy b1 (by grind) S0;have n2:=Iy b2 (by grind) C0;have bIH:R.pz (-1300)<=R.pz (-1075)/2:=by
  have:=R.oJ (-1075);have:=R.cY (show(-1300:Int)<=-1075-1 by omega);grind
 have z1:Kt (sG x (p+80) (p+14)).1.1:=Az b1.bl (vB (by grind)) (by grind) (by grind);have z2:Kt (sG x (p+80) (p+14)).1.2:=Az b1.bh (vB (by grind)) (by grind) (by grind);have z3:Kt (sG x (p+80) (p+14)).2.1:=Az b2.bl (vB (by grind)) (by grind) (by grind);have z4:Kt (sG x (p+80) (p+14)).2.2:=Az b2.bh (vB (by grind)) (by grind) (by grind);have bIC:R.Sf (R.qz x) k/R.Cf (R.qz x) k*R.Cf (R.qz x) k=R.Sf (R.qz x) k:=by grind
 obtain⟨q0,q1,q2,bq⟩:=aMZ (p:=p+20) b1 b2 S0 C0 sC.2 (by grind) (by grind) bIC (by omega) z1 z2 z3 z4;rw[bQF]at bq;have aV:R.ab (R.Sf (R.qz x) k/R.Cf (R.qz x) k)*R.ab (R.Cf (R.qz x) k)=R.ab (R.Sf (R.qz x) k):=by rw[<-R.fX,bIC]
 have bWF:R.pz (-1075)*R.pz 1075=1:=by rw[<-R.jQ];exact R.fM
 have cBK:1<=R.pz 1075:=by rw[<-R.fM];exact R.cY (by omega)
 have tV:R.pz (-1075)<=R.ab (R.Sf (R.qz x) k/R.Cf (R.qz x) k)/\R.ab (R.Sf (R.qz x) k/R.Cf (R.qz x) k)<=R.pz 1075:=by
  have a0:=R.aO (R.Sf (R.qz x) k/R.Cf (R.qz x) k);generalize R.ab (R.Sf (R.qz x) k/R.Cf (R.qz x) k)=a at *;constructor
  ·have:=R.aG a0 (show 0<=1-R.ab (R.Cf (R.qz x) k) by grind);grind
  ·refine R.cO bLQ ?_;have:=R.aG a0 (show 0<=R.ab (R.Cf (R.qz x) k)-R.pz (-1075) by grind);grind
 have bQO:=Nl _ tV.1;obtain⟨bE,vl,vh,V0,oE⟩:Bx (rE fn x (p+80) (p+12)) (R.fv fn (R.qz x) k) (2048*z*R.ab (R.fv fn (R.qz x) k)) (mg p)/\R.pz (-1075)<=R.ab (R.fv fn (R.qz x) k)/\R.ab (R.fv fn (R.qz x) k)<=R.pz 1075/\R.fv fn (R.qz x) k≠0/\(fn<=2->On (rE fn x (p+80) (p+12))):=by
  have aKY:p+12+2=p+14:=by omega
  have bQE:p+12+8=p+20:=by omega
  have h3:fn=1\/fn=2\/fn=3:=by omega
  rcases h3 with rfl |rfl |rfl
  ·have a:R.fv 1 (R.qz x) k=R.Sf (R.qz x) k:=rfl;have b:rE 1 x (p+80) (p+12)=(sG x (p+80) (p+14)).1:=by unfold rE;rw[aKY];rfl
   rw[a,b];exact⟨yI b1 (by have:=R.aG (cGW z0) (R.aO (R.Sf (R.qz x) k));grind),sS.1,by grind,S0,fun _=>aZP.1⟩
  ·have a:R.fv 2 (R.qz x) k=R.Cf (R.qz x) k:=rfl;have b:rE 2 x (p+80) (p+12)=(sG x (p+80) (p+14)).2:=by unfold rE;rw[aKY];rfl
   rw[a,b];exact⟨yI b2 (by have:=R.aG (cGW z0) (R.aO (R.Cf (R.qz x) k));grind),sC.1,by grind,C0,fun _=>aZP.2⟩
  ·have a:R.fv 3 (R.qz x) k=R.Sf (R.qz x) k/R.Cf (R.qz x) k:=rfl;have b:rE 3 x (p+80) (p+12)=rQ x (p+80) (p+12):=rfl;rw[a,b];unfold rQ;rw[aKY,bQE];exact⟨yI bq (by have:=R.aG (cGW z0) (R.aO (R.Sf (R.qz x) k/R.Cf (R.qz x) k));grind),tV.1,tV.2,bQO,fun h=>absurd h (by decide)⟩
 have nE:=Iy bE (by grind) V0;have bJE:2*R.pz 1075<=R.pz 1100:=by rw[<-R.kF];exact R.cY (by omega)
 obtain⟨bLL,bLK,bO⟩:=aCA (n:=p+20) bE (by omega) (by grind) (by grind);rw[bLC]at bO;have bX:Bx (eE fn x p) (R.fv fn (R.qz x) k) (4096*z*R.ab (R.fv fn (R.qz x) k)) (mg p):=by
  refine yI bO ?_;have k1:=R.aG (cGW z0) (show 0<=65/64*R.ab (R.fv fn (R.qz x) k)-R.ab (R.qz (rE fn x (p+80) (p+12)).1) by grind);have k2:=R.aG (cGW z0) (show 0<=65/64*R.ab (R.fv fn (R.qz x) k)-R.ab (R.qz (rE fn x (p+80) (p+12)).2) by grind);have k3:=R.aG (cGW z0) (R.aO (R.fv fn (R.qz x) k));grind
 have nX:=Iy bX (by grind) V0;have g1:=Ba false (rE fn x (p+80) (p+12)).1 (p+20).toNat;have g2:=Ba true (rE fn x (p+80) (p+12)).2 (p+20).toNat;rw[show(((p+20).toNat:Nat):Int)=p+20 by omega]at g1 g2;have m1:(eE fn x p).1.1≠0:=vB (by grind);have m2:(eE fn x p).2.1≠0:=vB (by grind);have x1:=Lb (up:=false) (p:=(rE fn x (p+80) (p+12)).1) (n:=p+20) m1;have x2:=Lb (up:=true) (p:=(rE fn x (p+80) (p+12)).2) (n:=p+20) m2;have bII:R.pz (-1076)<=63/64*R.pz (-1075):=by
  have:=R.oJ (-1075);rw[show(-1075:Int)-1=-1076 by rfl]at this;grind
 have y1:=Ej (p:=(rE fn x (p+80) (p+12)).1) (E:=-1076) (vB (by grind)) (by grind);have y2:=Ej (p:=(rE fn x (p+80) (p+12)).2) (E:=-1076) (vB (by grind)) (by grind);refine⟨so,co,bVC,bVB,b1.Aw,b2.Aw,⟨z1,z2,z3,z4⟩,q0,q1,q2,bE.Aw,bLL,bLK,V0,?_,?_,?_,?_,?_,?_,?_⟩
 ·have:=R.cY (show(-1100:Int)<=-1075 by omega);grind
 ·have:=R.cY (show(1075:Int)<=1090 by omega);grind
 ·rw[e8];exact bX
 ·constructor
  ·show((bl (shD false (rE fn x (p+80) (p+12)).1 (p+20)).1.natAbs:Nat):Int)<=_;omega
  ·show((bl (shD true (rE fn x (p+80) (p+12)).2 (p+20)).1.natAbs:Nat):Int)<=_;omega
 ·have P1200:R.pz 1100<=R.pz (-p-1400+((p+2600).toNat:Nat)):=R.cY (by omega);refine aDQ (E:=-p-1400) (n:=(p+2600).toNat) bX.ph bX.pl.Ie ?_ ?_ (by grind) ?_ (by omega) (by omega) (by omega)
  ·show -p-1400<=(shD true (rE fn x (p+80) (p+12)).2 (p+20)).2;omega
  ·show -p-1400<=(shD false (rE fn x (p+80) (p+12)).1 (p+20)).2;omega
  ·rw[nV,R.iZ];grind
 ·have bLN:R.pz p*z=1/1048576:=by
   rw[hz,<-R.jQ,show p+(-p-20)=-20 by omega];have e:=R.fU 0 (n:=20) (c:=1048576) (by norm_cast);rw[R.fM,show(0:Int)-((20:Nat):Int)=-20 by rfl]at e;grind
  have wd:=bX.wd;have lo:=bX.lo;have hi:=bX.hi;have m0:=bX.m0;have k1:=R.aG (cGW (R.dU p)) (show 0<=4096*z*R.ab (R.fv fn (R.qz x) k)-(R.qz (eE fn x p).2-R.qz (eE fn x p).1) by grind);have k2:R.pz p*(4096*z*R.ab (R.fv fn (R.qz x) k))=R.ab (R.fv fn (R.qz x) k)/256:=by
   have:R.pz p*(4096*z*R.ab (R.fv fn (R.qz x) k))=4096*(R.pz p*z)*R.ab (R.fv fn (R.qz x) k):=by grind
   rw[this,bLN];grind
  refine aTB (by grind) ?_
  by_cases c:0<R.fv fn (R.qz x) k
  ·left;have s:=nX.2.2.2.2.1 c;rw[R.bS (cGW c)]at *;have e:=R.bS (cGW s);refine⟨s,?_⟩;have:=nX.1;rw[e]at this;grind
  ·right;have s:=nX.2.2.2.2.2.1 (by grind);have e:R.ab (R.qz (eE fn x p).2)=-R.qz (eE fn x p).2:=by rw[<-R.iZ,R.bS (by grind)]
   refine⟨s,?_⟩;have:=nX.2.2.1;rw[e]at this;grind
 ·intro h2;exact⟨Ua (by omega) (oE h2).1,Ua (by omega) (oE h2).2⟩
end M
namespace W
open Go AI M
namespace fL
def E:=mE [(83,Ct.aJ)] 42 [26] [(3,[1])] [3]
def aE:=bd f172
theorem aT:Nk E aE:=nk
def J3 a:=lK E f172 aE 3 [dM a]
theorem start a b c:aF E f172 aE [D.s (sc (int i64 a)),D.s (sc (int u64 b)),D.s (sc (int i64 c))]=letI A:=some [D.s (sc (bool false)),D.s (sc (int i64 1))];aB (decide (a<1)) A (aB (decide (3<a)) A (aB (decide (c<1)) A (aB (decide (66000<c)) A (fL.J3 b)))):=eJ aT
theorem iB a:J3 a=letI A:=bif cR.fH 64 a then fO.gO (aH.fF 64) (a%9223372036854775808)else(0:Int);letI B:=some [D.s (sc (bool (A==0))),D.s (sc (int i64 6))];aN (((64:Int)=(32:Int)\/(64:Int)=(64:Int))/\0<=a/\a<18446744073709551616) (aB (A==3) B (aB (A==4) B (some [D.s (sc (bool (A==0))),D.s (sc (int i64 (bif cR.fH 64 a then(0:Int)else(2:Int))))]))):=cJ aT
def Qm(b:Int):Int:=bif cR.fH 64 b then fO.gO (aH.fF 64) (b%9223372036854775808)else 0
def Tr(fn b p:Int):Int:=if fn<1 then 1 else if 3<fn then 1 else if p<1 then 1 else if 66000<p then 1 else if Qm b=3 then 6 else if Qm b=4 then 6 else bif cR.fH 64 b then 0 else 2
def aKH(fn b p:Int):Bool:=if fn<1 then false else if 3<fn then false else if p<1 then false else if 66000<p then false else Qm b==0
def sp(fn b p:Int):Prop×List D:=(0<=b/\b<18446744073709551616,[.s (.sc (.bool (aKH fn b p))),.s (.sc (.int .i64 (Tr fn b p)))])
theorem spec:oG E f172 aE (pN .i64) (pN .u64) (pN .i64) sp:=by
 intro fn b p h;refine(start fn b p).trans ?_;unfold sp Tr aKH;dsimp only
 by_cases c1:fn<1
 ·rw[aM c1,if_pos c1,if_pos c1]
 ·rw[aL c1,if_neg c1,if_neg c1]
  by_cases c2:3<fn
  ·rw[aM c2,if_pos c2,if_pos c2]
  ·rw[aL c2,if_neg c2,if_neg c2]
   by_cases c3:p<1
   ·rw[aM c3,if_pos c3,if_pos c3]
   ·rw[aL c3,if_neg c3,if_neg c3]
    by_cases c4:66000<p
    ·rw[aM c4,if_pos c4,if_pos c4]
    ·rw[aL c4,if_neg c4,if_neg c4,iB,gP ⟨Or.inr rfl,h.1,h.2⟩];show aB (Qm b==3) (some [_,_]) (aB (Qm b==4) (some [_,_]) (some [D.s (.sc (.bool (Qm b==0))),_]))=_
     by_cases c5:Qm b=3
     ·rw[bJ c5,if_pos c5];rfl
     ·rw[bB c5,if_neg c5]
      by_cases c6:Qm b=4
      ·rw[bJ c6,if_pos c6];rfl
      ·rw[bB c6,if_neg c6]
def aJ:dJ:=orc3 (pN .i64) (pN .u64) (pN .i64) sp
theorem ok:OK 172 aJ:=(dY E aE (aA Ct.ok aC) func172).xN rfl spec
end fL
namespace aDV
def E:=mE [(211,aZ.aJ),(115,nQ.aJ),(116,cV.aJ),(212,VTurned.aJ),(119,jR.aJ)] 72 [18,29,39,50,69] [] []
def aE:=bd f173
theorem aT:Nk E aE:=nk
theorem start a b c d:aF E f173 aE [D.s (sc (int i64 a)),D.s (sc (int u64 b)),D.s (sc (int i64 c)),D.s (sc (int i64 d))]=letI Z:=sc (int i64 0);letI F:=aZ.qN b;letI W:=aZ.aBF F c;letI U:=aZ.aBE F c;aN ((0<=b/\b<18446744073709551616)/\cR.fH 64 b=true/\cT.jL 64 b=true/\(1<=c/\c<=66590)/\kQ F/\bl F.fst.natAbs<=64/\(-1200:Int)<=F.snd/\F.snd<=1200) (aD (isNeg U.fst) fun e=>aD (M6.dg U.fst.natAbs) fun f=>aD U.snd fun g=>aD (isNeg W.fst) fun h=>aD (M6.dg W.fst.natAbs) fun i=>aD W.snd fun j=>letI G:=(e,f,g,h,i,j);letI P:=fV.Ms (dv (iP G)) (d+2);letI O:=fV.Mr (dv (iO G)) (d+2);letI K:=bN.tW (dv (cV.Bt G)) (d+2);letI I:=bN.sW (dv (cV.uZ G)) (d+2);aN (nQ.Xn G d) (aD (isNeg O.fst) fun k=>aD (M6.dg O.fst.natAbs) fun l=>aD O.snd fun m=>aD (isNeg P.fst) fun n=>aD (M6.dg P.fst.natAbs) fun o=>aD P.snd fun p=>letI A1:=(k,l,m,n,o,p);aN (cV.aDH G d) (aD (isNeg K.fst) fun q=>aD (M6.dg K.fst.natAbs) fun r=>aD K.snd fun s=>aD (isNeg I.fst) fun t=>aD (M6.dg I.fst.natAbs) fun u=>aD I.snd fun v=>letI B1:=(q,r,s,t,u,v);letI A:=VTurned.trn (dv (iO A1),dv (iP A1)) (dv (iO B1),dv (iP B1)) (aZ.cQ F c).toNat;aN (fD A1/\fD B1/\0<=aZ.cQ F c/\aZ.cQ F c<=3) (aD (isNeg A.fst.fst.fst) fun w=>aD (M6.dg A.fst.fst.fst.natAbs) fun x=>aD A.fst.fst.snd fun y=>aD (isNeg A.fst.snd.fst) fun z=>aD (M6.dg A.fst.snd.fst.natAbs) fun aa=>aD A.fst.snd.snd fun ab=>letI N:=(w,x,y,z,aa,ab);letI D1:=dv (iP N);letI C1:=dv (iO N);aD (isNeg A.snd.fst.fst) fun ac=>aD (M6.dg A.snd.fst.fst.natAbs) fun ad=>aD A.snd.fst.snd fun ae=>aD (isNeg A.snd.snd.fst) fun af=>aD (M6.dg A.snd.snd.fst.natAbs) fun ag=>aD A.snd.snd.snd fun ah=>letI H:=(ac,ad,ae,af,ag,ah);letI Y:=dv (iP H);letI X:=dv (iO H);letI C:=jR.Mz (i64.wrap (d+8)) C1 D1 X Y;letI T:=aQ C.fst C.snd;letI B:=jR.My (i64.wrap (d+8)) C1 D1 X Y;letI Q:=aQ B.fst B.snd;aB (a==1) (some [D.agg [sc (bool w),ints u64 x,sc (int i64 y),sc (bool z),ints u64 aa,sc (int i64 ab)],D.s Z]) (aB (a==2) (some [D.agg [sc (bool ac),ints u64 ad,sc (int i64 ae),sc (bool af),ints u64 ag,sc (int i64 ah)],D.s Z]) (aN (fD N/\fD H/\(1<=i64.wrap (d+8)/\i64.wrap (d+8)<=70000)/\fZ.uI X Y≠0/\(bl C1.fst.natAbs<=262144/\bl D1.fst.natAbs<=262144/\bl X.fst.natAbs<=262144/\bl Y.fst.natAbs<=262144)/\iN B.fst B.snd=true/\iN C.fst C.snd=true) (aD (isNeg Q.fst) fun ai=>aD (M6.dg Q.fst.natAbs) fun aj=>aD Q.snd fun ak=>aD (isNeg T.fst) fun al=>aD (M6.dg T.fst.natAbs) fun am=>aD T.snd fun an=>some [D.agg [sc (bool ai),ints u64 aj,sc (int i64 ak),sc (bool al),ints u64 am,sc (int i64 an)],D.s Z]))))))):=eJ aT
def sp(fn b w p:Int):Prop×List D:=((1<=fn/\fn<=3)/\(0<=b/\b<18446744073709551616)/\cR.fH 64 b=true/\cT.jL 64 b=true/\aEE (aZ.qN b)/\(13<=p/\p<=66012)/\w=p+68,[wY (rE fn (aZ.qN b) w p).1 (rE fn (aZ.qN b) w p).2,.s (.sc (.int .i64 0))])
theorem fold(a b:Int×Int):(isNeg a.1,M6.dg a.1.natAbs,a.2,isNeg b.1,M6.dg b.1.natAbs,b.2)=nU a b:=rfl
theorem spec:Rp E f173 aE (pN .i64) (pN .u64) (pN .i64) (pN .i64) sp:=by
 rintro fn b w p ⟨hf,hb,bAI,qU,hx,hp,hw⟩;obtain⟨pp,rfl⟩:∃pp,p=pp+12:=⟨p-12,by omega⟩;obtain rfl:w=pp+80:=by omega
 refine(start fn b (pp+80) (pp+12)).trans ?_;obtain⟨k,hk⟩:=Lg (w:=pp+80) hx (by omega);have N:=xG (fn:=fn) (p:=pp) hx (by omega) hf hk;have q4:0<=aZ.cQ (aZ.qN b) (pp+80)/\aZ.cQ (aZ.qN b) (pp+80)<=3:=by rw[hk.q];omega
 have eb:=hx.bl;have xe0:=hx.e0;have xe1:=hx.e1;have aKY:pp+12+2=pp+14:=by omega
 have bQE:pp+12+8=pp+20:=by omega
 have bUW:i64.wrap (pp+20)=pp+20:=wrap_i64;have so:=N.so;have co:=N.co;have sS:=N.sS;have sC:=N.sC;have t1:=N.t1;have t2:=N.t2;obtain⟨z1,z2,z3,z4⟩:=N.z;unfold sp rE rQ;dsimp only;rw[aKY,bQE,bUW,gP ⟨hb,bAI,qU,⟨by omega,by omega⟩,hx.xD,by omega,by omega,by omega⟩,aI,aI,aI,aI,aI,aI,fold];refine(gP so).trans ?_;rw[qF,qG,aI,aI,aI,aI,aI,aI,fold];refine(gP co).trans ?_;rw[aI,aI,aI,aI,aI,aI,fold];refine(gP ⟨sS,sC,q4.1,q4.2⟩).trans ?_;rw[qF,qG,qF,qG];have eT:VTurned.trn (fV.Mr (aZ.aBE (aZ.qN b) (pp+80)) (pp+14),fV.Ms (aZ.aBF (aZ.qN b) (pp+80)) (pp+14)) (bN.tW (dv (cV.Bt (nU (aZ.aBE (aZ.qN b) (pp+80)) (aZ.aBF (aZ.qN b) (pp+80))))) (pp+14),bN.sW (dv (cV.uZ (nU (aZ.aBE (aZ.qN b) (pp+80)) (aZ.aBF (aZ.qN b) (pp+80))))) (pp+14)) (aZ.cQ (aZ.qN b) (pp+80)).toNat=sG (aZ.qN b) (pp+80) (pp+14):=rfl;rw[eT,aI,aI,aI,aI,aI,aI,aI,aI,aI,aI,aI,aI];have h3:fn=1\/fn=2\/fn=3:=by omega
 rcases h3 with rfl |rfl |rfl
 ·rfl
 ·rfl
 ·rw[bB (by decide),bB (by decide),fold,fold,qF,qG,qF,qG];have p1:1<=pp+20:=by omega
  have p2:pp+20<=70000:=by omega
  have y1:=cCL z1.1 (show 100000<=262144 by decide);have y2:=cCL z2.1 (show 100000<=262144 by decide);have y3:=cCL z3.1 (show 100000<=262144 by decide);have y4:=cCL z4.1 (show 100000<=262144 by decide);have c:=And.intro t1 (And.intro t2 (And.intro (And.intro p1 p2) (And.intro N.q0 (And.intro (And.intro y1 (And.intro y2 (And.intro y3 y4))) (And.intro N.q1 N.q2)))));refine(gP c).trans ?_;rw[aI,aI,aI,aI,aI,aI];rfl
def aJ:dJ:=orc4 (pN .i64) (pN .u64) (pN .i64) (pN .i64) sp
theorem ok:OK 173 aJ:=(dY E aE (aA aZ.ok (aA nQ.ok (aA cV.ok (aA VTurned.ok (aA jR.ok aC))))) func173).aSJ rfl spec
end aDV
namespace Ce
def E:=mE [(162,Qb.aJ),(163,bDK.aJ),(164,aAP.aJ)] 31 [28] [] []
def aE:=bd f118
theorem aT:Nk E aE:=nk
theorem start a b d e f g c:aF E f118 aE [D.agg [sc (bool a),ints u64 b,sc (int i64 d)],D.agg [sc (bool e),ints u64 f,sc (int i64 g)],D.s (sc (int i64 c))]=letI B:=cX.oY true (dv (e,f,g)).fst (dv (e,f,g)).snd c;letI F:=bif iN B.fst B.snd then aQ B.fst B.snd else((0:Int),(0:Int));letI A:=cX.oY false (dv (a,b,d)).fst (dv (a,b,d)).snd c;letI C:=bif iN A.fst A.snd then aQ A.fst A.snd else((0:Int),(0:Int));aN (aU (a,b,d)/\1<=c/\c<=70000) (aD (isNeg C.fst) fun h=>aD (M6.dg C.fst.natAbs) fun i=>aD C.snd fun j=>aD (bif iN A.fst A.snd then(0:Int)else(5:Int)) fun k=>aN (aU (e,f,g)/\1<=c/\c<=70000) (aD (isNeg F.fst) fun l=>aD (M6.dg F.fst.natAbs) fun m=>aD F.snd fun n=>aD (bif iN B.fst B.snd then(0:Int)else(5:Int)) fun o=>aN (k=0/\o=0) (some [D.agg [sc (bool h),ints u64 i,sc (int i64 j),sc (bool l),ints u64 m,sc (int i64 n)],D.s (sc (int i64 0))]))):=eJ aT
def sp(x y:gW)(p:Int):Prop×List D:=(aU x/\aU y/\(1<=p/\p<=70000)/\yQ false (dv x) p=true/\yQ true (dv y) p=true,[wY (shD false (dv x) p) (shD true (dv y) p),.s (.sc (.int .i64 0))])
theorem spec:oG E f118 aE kA kA (pN .i64) sp:=by
 rintro x y p ⟨h1,h2,hp,i1,i2⟩;have bMK:iN (cX.oY false (dv (x.1,x.2.1,x.2.2)).1 (dv (x.1,x.2.1,x.2.2)).2 p).1 (cX.oY false (dv (x.1,x.2.1,x.2.2)).1 (dv (x.1,x.2.1,x.2.2)).2 p).2=true:=i1;have bMJ:iN (cX.oY true (dv (y.1,y.2.1,y.2.2)).1 (dv (y.1,y.2.1,y.2.2)).2 p).1 (cX.oY true (dv (y.1,y.2.1,y.2.2)).1 (dv (y.1,y.2.1,y.2.2)).2 p).2=true:=i2;refine(start x.1 x.2.1 x.2.2 y.1 y.2.1 y.2.2 p).trans ?_;simp only[aI];rw[gP ⟨h1,hp⟩,gP ⟨h2,hp⟩,bMK,bMJ,gP ⟨rfl,rfl⟩];rfl
def aJ:dJ:=orc3 kA kA (pN .i64) sp
theorem ok:OK 118 aJ:=(dY E aE (aA Qb.ok (aA bDK.ok (aA aAP.ok aC))) func118).xN rfl spec
end Ce
namespace aRN
def E:=mE [(117,Fe.aJ),(118,Ce.aJ)] 23 [10,20] [] []
def aE:=bd f65
theorem aT:Nk E aE:=nk
theorem start a c d e f g b:aF E f65 aE [D.agg [sc (bool a),ints u64 c,sc (int i64 d),sc (bool e),ints u64 f,sc (int i64 g)],D.s (sc (int i64 b))]=letI C:=int i64 0;letI B:=M.shD true (dv (e,f,g)) b;letI A:=M.shD false (dv (a,c,d)) b;aN (fD (a,c,d,e,f,g)) (aD (if 1<=b/\b<=70000 then(0:Int)else(1:Int)) fun h=>aB (h !=0) (some [D.agg [sc (bool false),sc (slice none 0 0),sc C,sc (bool false),sc (slice none 0 0),sc C],D.s (sc (int i64 h))]) (aN (aU (a,c,d)/\aU (e,f,g)/\(1<=b/\b<=70000)/\yQ false (dv (a,c,d)) b=true/\yQ true (dv (e,f,g)) b=true) (aD (isNeg A.fst) fun i=>aD (M6.dg A.fst.natAbs) fun j=>aD A.snd fun k=>aD (isNeg B.fst) fun l=>aD (M6.dg B.fst.natAbs) fun m=>aD B.snd fun n=>some [D.agg [sc (bool i),ints u64 j,sc (int i64 k),sc (bool l),ints u64 m,sc (int i64 n)],D.s (sc C)]))):=eJ aT
def sp(s:yM)(p:Int):Prop×List D:=(fD s/\(1<=p/\p<=70000)/\yQ false (dv (iO s)) p=true/\yQ true (dv (iP s)) p=true,[wY (shD false (dv (iO s)) p) (shD true (dv (iP s)) p),.s (.sc (.int .i64 0))])
theorem spec:fN E f65 aE Ae (pN .i64) sp:=by
 rintro s p ⟨h1,hp,i1,i2⟩;refine(start s.1 s.2.1 s.2.2.1 s.2.2.2.1 s.2.2.2.2.1 s.2.2.2.2.2 p).trans ?_;rw[gP h1,aI,if_pos hp,gR rfl];exact gP ⟨h1.1,h1.2.1,hp,i1,i2⟩
def aJ:dJ:=orc2 Ae (pN .i64) sp
theorem ok:OK 65 aJ:=(dY E aE (aA Fe.ok (aA Ce.ok aC)) func65).lD rfl spec
end aRN
namespace lG
def E:=mE [(172,fL.aJ),(113,Fb.aJ),(14,aSA.aJ),(173,aDV.aJ),(65,aRN.aJ),(174,Hf.aJ)] 93 [19,32,37,52,69,79] [(10,[0,1,2,6,10]),(6,[0,1,2,6,8]),(13,[0,1,2,6,10,11,12])] [6,13]
def aE:=bd f125
theorem aT:Nk E aE:=nk
def J6 a b c d e f g h:=lK E f125 aE 6 [bP a,dM b,bP c,dR 3 44 [dG d,sc (slice none 0 0),cF e,dG f,sc (slice none 0 0),cF g],sE h]
def Jm a b c d e f g h:=qA E f125 aE 10 [bP a,dM b,bP c,dR 3 44 [dG d,sc (slice none 0 0),cF e,dG f,sc (slice none 0 0),cF g],bP h]
def Pz a b c d e f g h i j k l m n o:=lK E f125 aE 13 [bP a,dM b,bP c,dR 3 44 [dG d,sc (slice none 0 0),cF e,dG f,sc (slice none 0 0),cF g],bP h,dR 5 44 [dG i,gM j,cF k,dG l,gM m,cF n],bP o]
theorem start a b c:aF E f125 aE [D.s (sc (int i64 a)),D.s (sc (int u64 b)),D.s (sc (int i64 c))]=letI B:=int i64 0;letI A:=lG.J6 a b c false 0 false 0 (fL.aKH a b c);aN (0<=b/\b<18446744073709551616) (aB (fL.Tr a b c !=0) (some [D.agg [sc (bool false),sc (slice none 0 0),sc B,sc (bool false),sc (slice none 0 0),sc B],D.s (sc (int i64 (fL.Tr a b c)))]) (aB (fL.aKH a b c) (aB (a==2) (aN ((-9223372036854775808:Int)<=(1:Int)/\(1:Int)<(9223372036854775808:Int)) (aD (isNeg (aQ 1 0).fst) fun d=>aD (M6.dg (aQ 1 0).fst.natAbs) fun e=>aD (aQ 1 0).snd fun f=>aN (aU (d,e,f)) (some [D.agg [sc (bool d),ints u64 e,sc (int i64 f),sc (bool d),ints u64 e,sc (int i64 f)],D.s (sc B)]))) A) A)):=eJ aT
theorem vJ a b c d e f g h:J6 a b c d e f g h=aB h (aN ((-9223372036854775808:Int)<=(0:Int)/\(0:Int)<(9223372036854775808:Int)) (aD (isNeg (aQ 0 0).fst) fun i=>aD (M6.dg (aQ 0 0).fst.natAbs) fun j=>aD (aQ 0 0).snd fun k=>aN (aU (i,j,k)) (some [D.agg [sc (bool i),ints u64 j,sc (int i64 k),sc (bool i),ints u64 j,sc (int i64 k)],D.s (sc (int i64 0))]))) (lG.Jm a b c d e f g (i64.wrap (c+80))):=cJ aT
theorem tB a b c d e f g h:Jm a b c d e f g h=letI A:=rE a (aZ.qN b) (if 68000<h then(68000:Int)else h) (i64.wrap (c+12));aN ((1<=a/\a<=3)/\(0<=b/\b<18446744073709551616)/\cR.fH 64 b=true/\cT.jL 64 b=true/\aEE (aZ.qN b)/\(13<=i64.wrap (c+12)/\i64.wrap (c+12)<=66012)/\(if 68000<h then(68000:Int)else h)=i64.wrap (c+12)+68) (aD (isNeg A.fst.fst) fun i=>aD (M6.dg A.fst.fst.natAbs) fun j=>aD A.fst.snd fun k=>aD (isNeg A.snd.fst) fun l=>aD (M6.dg A.snd.fst.natAbs) fun m=>aD A.snd.snd fun n=>lG.Pz a b c d e f g (if 68000<h then(68000:Int)else h) i j k l m n 0):=lJ aT
theorem wW a b c d e f g h i j k l m n o:Pz a b c d e f g h i j k l m n o=letI K:=int i64 0;letI H:=(i,j,k,l,m,n);letI G:=i64.wrap (c+20);letI C:=M.shD true (dv (iP H)) G;letI B:=M.shD false (dv (iO H)) G;aB (o !=0) (some [D.agg [sc (bool false),sc (slice none 0 0),sc K,sc (bool false),sc (slice none 0 0),sc K],D.s (sc (int i64 o))]) (aN (fD H/\(1<=i64.wrap (c+20)/\i64.wrap (c+20)<=70000)/\yQ false (dv (iO H)) G=true/\yQ true (dv (iP H)) G=true) (aD (isNeg B.fst) fun p=>aD (M6.dg B.fst.natAbs) fun q=>aD B.snd fun r=>aD (isNeg C.fst) fun s=>aD (M6.dg C.fst.natAbs) fun t=>aD C.snd fun u=>letI F:=(p,q,r,s,t,u);letI I:=dv (iO F);letI A:=some [D.agg [sc (bool p),ints u64 q,sc (int i64 r),sc (bool s),ints u64 t,sc (int i64 u)],D.s (sc K)];aN (fD F/\(1<=c/\c<=70000)/\bV.kY (dv (iP F)) (-I.fst,I.snd)=true) (aD (Hf.bDO I (dv (iP F)) c) fun v=>aB v A (aB (h==68000) A (lG.Jm a b c d e f g (i64.wrap (h+64))))))):=cJ aT
def aVP(fn b p:Int):(Int×Int)×(Int×Int):=if fL.Tr fn b p≠0 then((0,0),(0,0))else bif fL.aKH fn b p then(if fn=2 then((1,0),(1,0))else((0,0),(0,0)))else eE fn (aZ.qN b) p
def sp(fn b p:Int):Prop×List D:=(0<=b/\b<18446744073709551616,[wY (aVP fn b p).1 (aVP fn b p).2,.s (.sc (.int .i64 (fL.Tr fn b p)))])
theorem fold(a b:Int×Int):(isNeg a.1,M6.dg a.1.natAbs,a.2,isNeg b.1,M6.dg b.1.natAbs,b.2)=nU a b:=rfl
theorem aQJ{b:Int}(hb:0<=b/\b<18446744073709551616)(c0:fL.Qm b≠0)(c3:fL.Qm b≠3)(c4:fL.Qm b≠4):cR.fH 64 b=true/\cT.jL 64 b=true/\bDJ (bI.lL 64 b) (bI.nA 64 b):=by
 have hp:cR.fH 64 b=true:=rfl;unfold fL.Qm at c0 c3 c4;rw[hp,cond_true]at c0 c3 c4;have e1:cP.lA (aH.fF 64)=4503599627370496:=rfl;have e2:lC.mV (aH.fF 64)=9218868437227405312:=rfl;have e3:bR.cC (aH.fF 64)=9223372036854775808:=rfl;have e4:(aH.fF 64).2.2.1=-1074:=rfl;unfold fO.gO at c0 c3 c4;rw[e1,e2]at c0 c3 c4;have n0:b%9223372036854775808≠0:=fun h=>by rw[h,if_pos rfl]at c0;exact c0 rfl
 have n1:b%9223372036854775808<9218868437227405312:=by
  rw[if_neg n0]at c3 c4
  by_cases h1:b%9223372036854775808<4503599627370496
  ·omega
  ·rw[if_neg h1]at c3 c4
   by_cases h2:b%9223372036854775808<9218868437227405312
   ·exact h2
   ·rw[if_neg h2]at c3 c4
    by_cases h3:b%9223372036854775808=9218868437227405312
    ·rw[if_pos h3]at c3;exact absurd rfl c3
    ·rw[if_neg h3]at c4;exact absurd rfl c4
 refine⟨hp,?_,?_⟩
 ·unfold cT.jL;rw[e2,e3];exact decide_eq_true n1
 ·have hz:(bI.lL 64 b).natAbs=(dV.qM (aH.fF 64) (b%9223372036854775808)).toNat:=by
   unfold bI.lL;rw[kS,e3]
  have hm:0<dV.qM (aH.fF 64) (b%9223372036854775808)/\dV.qM (aH.fF 64) (b%9223372036854775808)<9007199254740992:=by
   unfold dV.qM;rw[e1];split <;> omega
  have he:-1074<=bI.nA 64 b/\bI.nA 64 b<=971:=by
   unfold bI.nA dV.tT;rw[e1,e3,e4];split <;> omega
  exact⟨by omega,by omega,he.1,he.2⟩
theorem told{fn b p:Int}(c:fL.Tr fn b p=0)(hz:fL.aKH fn b p=false):(1<=fn/\fn<=3)/\(1<=p/\p<=66000)/\fL.Qm b≠0/\fL.Qm b≠3/\fL.Qm b≠4:=by
  unfold fL.Tr at c;unfold fL.aKH at hz
  by_cases c1:fn<1
  ·rw[if_pos c1]at c;omega
  ·rw[if_neg c1]at c hz
   by_cases c2:3<fn
   ·rw[if_pos c2]at c;omega
   ·rw[if_neg c2]at c hz
    by_cases c3:p<1
    ·rw[if_pos c3]at c;omega
    ·rw[if_neg c3]at c hz
     by_cases c4:66000<p
     ·rw[if_pos c4]at c;omega
     ·rw[if_neg c4]at c hz
      by_cases c5:fL.Qm b=3
      ·rw[if_pos c5]at c;omega
      ·rw[if_neg c5]at c
       by_cases c6:fL.Qm b=4
       ·rw[if_pos c6]at c;omega
       ·exact⟨by omega,by omega,beq_eq_false_iff_ne.1 hz,c5,c6⟩
theorem spec:bCR E f125 aE (pN .i64) (pN .u64) (pN .i64) sp:=by
 intro fn b p h;have h:0<=b/\b<18446744073709551616:=h;have s:=(start fn b p).trans (gP h);unfold sp aVP;dsimp only
 by_cases c:fL.Tr fn b p=0
 ·rw[aP,c];rw[c,gR rfl]at s;cases hz:fL.aKH fn b p with
  |true =>
   rw[cond_true];rw[hz,bT]at s
   by_cases f2:fn=2
   ·rw[if_pos f2];have e:aQ 1 0=(1,0):=by decide +kernel
    rw[bJ f2,gP ⟨by decide,by decide⟩,e,aI,aI,aI,gP (dW (show kQ (1,0)from e▸iF (iL (by decide +kernel) (by decide +kernel)) (by decide +kernel)))]at s;exact⟨_,s,iX.refl _⟩
   ·rw[if_neg f2];have e:aQ 0 0=(0,0):=fR ..;rw[bB f2,vJ,bT,gP ⟨by decide,by decide⟩,e,aI,aI,aI,gP (dW (show kQ (0,0)from e▸iF (iL (by decide +kernel) (by decide +kernel)) (by decide +kernel)))]at s;exact⟨_,s,iX.refl _⟩
  |false =>
   rw[cond_false];have hv:=told c hz;obtain⟨hf,hp,v0,v3,v4⟩:=hv;obtain⟨bAI,qU,hN⟩:=aQJ h v0 v3 v4;have hx:aEE (aZ.qN b):=bIO hN;obtain⟨k,hk⟩:=Lg (w:=p+80) hx (by omega);have N:=xG (fn:=fn) (p:=p) hx hp hf hk;have w1:i64.wrap (p+80)=p+80:=wrap_i64;have w2:i64.wrap (p+12)=p+12:=wrap_i64;have w3:i64.wrap (p+20)=p+20:=wrap_i64;have p1:1<=p+20/\p+20<=70000:=⟨by omega,by omega⟩;have p2:1<=p/\p<=70000:=⟨by omega,by omega⟩;have cAW:p+80=p+12+68:=by omega
   have u:=N.bx;obtain⟨re,s1,s2,ok,th⟩:=And.intro N.re (And.intro N.s1 (And.intro N.s2 (And.intro N.ok N.thin)));have Aw:fD (nU (eE fn (aZ.qN b) p).1 (eE fn (aZ.qN b) p).2):=u.Aw;unfold eE at ok th Aw ⊢;rw[hz,bF,vJ,bF,w1,tB,w2,if_neg (show ¬(68000:Int)<p+80 by omega),gP ⟨hf,h,bAI,qU,hx,⟨by omega,by omega⟩,cAW⟩]at s;generalize rE fn (aZ.qN b) (p+80) (p+12)=q at *;rw[aI,aI,aI,aI,aI,aI,wW,gR rfl,w3,fold,qF,qG]at s;have s:=s.trans (gP ⟨re,p1,s1,s2⟩);dsimp only at ok th Aw ⊢;generalize M.shD false q.1 (p+20)=lo at *;generalize M.shD true q.2 (p+20)=hi at *;rw[aI,aI,aI,aI,aI,aI,fold,qF,qG]at s;have s:=s.trans (gP ⟨Aw,p2,ok⟩);rw[aI,th,bT]at s;exact⟨_,s,iX.refl _⟩
 ·rw[if_pos c];rw[oM c]at s;refine⟨_,s,.cons ?_ (iX.refl _)⟩;have d0:M6.dg ((0,0):Int×Int).1.natAbs=[]:=M6.cD;unfold wY;dsimp only;rw[show(0:Int).natAbs=0 from rfl,M6.cD];exact Ap.agg (.cons (Fc.refl _) (.cons (Fc.nil _) (.cons (Fc.refl _) (.cons (Fc.refl _) (.cons (Fc.nil _) (Ab.refl _))))))
def aJ:dJ:=orc3 (pN .i64) (pN .u64) (pN .i64) sp
theorem ok:OK 125 aJ:=(dY E aE (aA fL.ok (aA Fb.ok (aA aSA.ok (aA aDV.ok (aA aRN.ok (aA Hf.ok aC)))))) func125).bLI rfl spec
end lG
end W
namespace M
open Go AI W
theorem aQU{b:Int}:fL.Qm b=(if b%9223372036854775808=0 then 0 else if b%9223372036854775808<4503599627370496 then 1 else if b%9223372036854775808<9218868437227405312 then 2 else if b%9223372036854775808=9218868437227405312 then 3 else 4):=by
 have hp:cR.fH 64 b=true:=rfl;have e1:cP.lA (aH.fF 64)=4503599627370496:=rfl;have e2:lC.mV (aH.fF 64)=9218868437227405312:=rfl;have e3:bR.cC (aH.fF 64)=9223372036854775808:=rfl;unfold fL.Qm fO.gO;rw[hp,e1,e2,cond_true]
theorem aBN{fn b p:Int}:fL.Tr fn b p=if fn<1 then 1 else if 3<fn then 1 else if p<1 then 1 else if 66000<p then 1 else if b%9223372036854775808<9218868437227405312 then 0 else 6:=by
 have hp:cR.fH 64 b=true:=rfl;unfold fL.Tr;rw[aQU,hp,cond_true]
 repeat' (split <;> try rfl)
 all_goals omega
theorem aYN{fn b p:Int}(h:fL.Tr fn b p=0):fL.aKH fn b p=(b%9223372036854775808==0):=by
 rw[aBN]at h;unfold fL.aKH;rw[aQU]
 by_cases c1:fn<1
 ·rw[if_pos c1]at h;omega
 ·rw[if_neg c1]at h ⊢
  by_cases c2:3<fn
  ·rw[if_pos c2]at h;omega
  ·rw[if_neg c2]at h ⊢
   by_cases c3:p<1
   ·rw[if_pos c3]at h;omega
   ·rw[if_neg c3]at h ⊢
    by_cases c4:66000<p
    ·rw[if_pos c4]at h;omega
    ·rw[if_neg c4]at h ⊢
     by_cases c5:b%9223372036854775808=0
     ·rw[if_pos c5,beq_iff_eq.2 c5];rfl
     ·rw[if_neg c5,beq_eq_false_iff_ne.2 c5]
      repeat' (split <;> try rfl)
def Real(b:Int):Prop:=(0<=b/\b<18446744073709551616)/\fL.Qm b≠0/\fL.Qm b≠3/\fL.Qm b≠4
theorem Real.n{b:Int}(h:Real b):bDJ (bI.lL 64 b) (bI.nA 64 b):=(lG.aQJ h.1 h.2.1 h.2.2.1 h.2.2.2).2.2
theorem Real.x{b:Int}(h:Real b):aEE (aZ.qN b):=bIO h.n
theorem Real.q{b:Int}(_h:Real b):R.qz (aZ.qN b)=R.qz (bI.lL 64 b,bI.nA 64 b):=pD _ _
end M
namespace M
open Go AI W
open Classical in
def kx (b:Int):Int:=if h:∃k,R.sA (R.qz (aZ.qN b)) k then Classical.choose h else 0
theorem Lr{b:Int}(h:Real b):R.sA (R.qz (aZ.qN b)) (kx b):=by
 obtain⟨k,hk⟩:=Lg (w:=100) h.x (by omega);have e:∃k,R.sA (R.qz (aZ.qN b)) k:=⟨k,hk.aCD⟩;unfold kx;rw[dif_pos e];exact Classical.choose_spec e
theorem bBX{fn b p:Int}(h:Real b)(hf:1<=fn/\fn<=3)(hp:1<=p/\p<=66000):bJK fn (aZ.qN b) p (kx b):=by
 obtain⟨k,hk⟩:=Lg (w:=p+80) h.x (by omega);rw[R.aLM h.x.fit (Lr h) hk.aCD];exact xG h.x hp hf hk
def vx(fn b:Int):Rat:=R.fv fn (R.qz (aZ.qN b)) (kx b)
theorem aFL{fn b p:Int}(hb:0<=b/\b<18446744073709551616)(c:fL.Tr fn b p=0)(hz:¬b%9223372036854775808=0):Real b/\(1<=fn/\fn<=3)/\(1<=p/\p<=66000)/\fL.aKH fn b p=false:=by
 have z:=aYN c;rw[beq_eq_false_iff_ne.2 hz]at z;obtain⟨hf,hp,v⟩:=lG.told c z;exact⟨⟨hb,v⟩,hf,hp,z⟩
theorem aPW{fn b p:Int}(c:fL.Tr fn b p=0)(hz:fL.aKH fn b p=false):lG.aVP fn b p=eE fn (aZ.qN b) p:=by
 unfold lG.aVP;rw[aP,hz,cond_false]
theorem bVH:R.qz (0,0)=0:=R.pV rfl
end M
namespace M
open Go AI W
structure bUK(x:Int×Int)(n:Nat)(E:Int)(B:Rat):Prop where
 xD:kQ x
 bl:bl x.1.natAbs<=n
 e:E<=x.2
 b:R.ab (R.qz x)<=B
end M
namespace M
open Go AI W
theorem Fy(a b:Int×Int):R.qz (fA.gZ a b)=R.qz a*R.qz b:=by
 unfold fA.gZ;rw[pD,cNA,R.jQ];unfold R.qz;grind
end M
namespace W
open Go AI M
namespace Wg
def E:=mE [(120,Jj.aJ)] 9 [] [] []
def aE:=bd f170
theorem aT:Nk E aE:=nk
theorem start a b c d e f:aF E f170 aE [D.agg [sc (bool a),ints u64 b,sc (int i64 c)],D.agg [sc (bool d),ints u64 e,sc (int i64 f)]]=aN (aU (a,b,c)/\aU (d,e,f)) (some [D.s (sc (bool (decide (eZ (dv (a,b,c)) (dv (d,e,f))<0))))]):=eJ aT
def sp(x y:gW):Prop×List D:=(aU x/\aU y,[.s (.sc (.bool (decide (eZ (dv x) (dv y)<0))))])
theorem spec:fN E f170 aE kA kA sp:=by
 intro x y h;exact(start x.1 x.2.1 x.2.2 y.1 y.2.1 y.2.2).trans (gP h)
def aJ:dJ:=orc2 kA kA sp
theorem ok:OK 170 aJ:=(dY E aE (aA Jj.ok aC) func170).lD rfl spec
end Wg
namespace SFirstL4
def E:=mE [(170,Wg.aJ)] 25 [] [(3,[1,4,5,12,13,14])] []
def aE:=bd f168
theorem aT:Nk E aE:=nk
def L3 a b c d e (f:Nat) (g:Nat->Bool) (h:Nat->List Int) (j:Nat->Int) k l:=qA E f168 aE 3 [vA (sc (Value.func (Fn.func 170) { toList:=[] } { toList:=[] })),dR 1 29 [dG a,sc (slice none 0 0),cF b],dR 2 29 [dG c,gM d,cF e],(A.v (V.one (L.rows 3 f fun i=>[sc (bool (g i)),ints u64 (h i),sc (int i64 (j i))])),none),bP k,bP l]
theorem start(a:gW)(b:gW)(c:gW)(d:gW):aF E f168 aE [D.rows 3 4 fun i=>[sc (bool (t4 a b c d i).fst),ints u64 (t4 a b c d i).snd.fst,sc (int i64 (t4 a b c d i).snd.snd)],D.s (sc (Value.func (Fn.func (170:FuncId)) #[] #[]))]=letI A:=t4 a b c d (cPW 0);SFirstL4.L3 false 0 A.fst A.snd.fst A.snd.snd 3 (fun i=>(t4 a b c d (cPW 1+i)).fst) (fun i=>(t4 a b c d (cPW 1+i)).snd.fst) (fun i=>(t4 a b c d (cPW 1+i)).snd.snd) 3 0:=eJ aT
theorem xH a b c d e f g h j k l:L3 a b c d e f g h j k l=letI A:=(g l.toNat,h l.toNat,j l.toNat);aB (decide (l<k)) (if 0<=l/\l<(f:Int)then aN (aU A/\aU (c,d,e)) (aB (decide (eZ (dv A) (dv (c,d,e))<0)) (SFirstL4.L3 a b (g l.toNat) (h l.toNat) (j l.toNat) f (fun i=>g i) (fun i=>h i) (fun i=>j i) k (i64.wrap (l+1))) (SFirstL4.L3 a b c d e f (fun i=>g i) (fun i=>h i) (fun i=>j i) k (i64.wrap (l+1))))else none) (some [D.agg [sc (bool c),ints u64 d,sc (int i64 e)]]):=lJ aT
def best(f:Nat->gW):Nat->gW
 |0=>f 0
 |k+1=>bif decide (eZ (dv (f (k+1))) (dv (best f k))<0)then f (k+1)else best f k
def Kr(a:gW×gW×gW×gW):gW:=best (t4 a.1 a.2.1 a.2.2.1 a.2.2.2) 3
def sp(a:gW×gW×gW×gW)(u:Unit):Prop×List D:=(aU a.1/\aU a.2.1/\aU a.2.2.1/\aU a.2.2.2,[.agg [.sc (.bool (Kr a).1),.ints .u64 (Kr a).2.1,.sc (.int .i64 (Kr a).2.2)]])
theorem zR{f:Nat->gW}{n:Nat}(hf:∀i,i<n->aU (f i)):∀k,k<n->aU (best f k)
 |0,h=>hf 0 h
 |k+1,h=>by
  unfold best;cases decide (eZ (dv (f (k+1))) (dv (best f k))<0)
  ·exact zR hf k (by omega)
  ·exact hf (k+1) h
theorem L(b0:Bool)(x1:Int)(n:Nat)(f:Nat->gW)(hn:n<1000)(hf:∀i,i<n+1->aU (f i)):∀d k:Nat,k+d=n->L3 b0 x1 (best f k).1 (best f k).2.1 (best f k).2.2 n (fun i=>(f (1+i)).1) (fun i=>(f (1+i)).2.1) (fun i=>(f (1+i)).2.2) (n:Int) (k:Int)=some [.agg [.sc (.bool (best f n).1),.ints .u64 (best f n).2.1,.sc (.int .i64 (best f n).2.2)]]
 |0,k,h=>by
  obtain rfl:k=n:=by omega
  rw[xH,aL]
 |d+1,k,h=>by
  have e:i64.wrap ((k:Int)+1)=((k+1:Nat):Int):=by rw[wrap_i64];omega
  have r:=L b0 x1 n f hn hf d (k+1) (by omega);have g1:aU (f (1+k)):=hf _ (by omega);have g2:aU (best f k):=zR hf k (by omega);have c1:f (k+1)=f (1+k):=by rw[Nat.add_comm]
  rw[xH,aM,aR,cFM,gP ⟨g1,g2⟩,e]
  by_cases hc:eZ (dv (f (k+1))) (dv (best f k))<0
  ·have hb:best f (k+1)=f (1+k):=by
    rw[<-c1];show(bif decide (eZ (dv (f (k+1))) (dv (best f k))<0)then f (k+1)else best f k)=_;rw[decide_eq_true hc];rfl
   rw[c1]at hc;rw[aM hc];rw[hb]at r;exact r
  ·have hb:best f (k+1)=best f k:=by
    show(bif decide (eZ (dv (f (k+1))) (dv (best f k))<0)then f (k+1)else best f k)=_;rw[decide_eq_false hc];rfl
   rw[c1]at hc;rw[aL hc];rw[hb]at r;exact r
theorem all{a:gW×gW×gW×gW}(h:aU a.1/\aU a.2.1/\aU a.2.2.1/\aU a.2.2.2):∀i,i<4->aU (t4 a.1 a.2.1 a.2.2.1 a.2.2.2 i):=fun i hi=>by
  obtain rfl |rfl |rfl |rfl:i=0\/i=1\/i=2\/i=3:=by omega
  ·exact h.1
  ·exact h.2.1
  ·exact h.2.2.1
  ·exact h.2.2.2
theorem aDJ{a:gW×gW×gW×gW}(h:aU a.1/\aU a.2.1/\aU a.2.2.1/\aU a.2.2.2):aU (Kr a):=zR (n:=4) (all h) 3 (by decide)
theorem spec:fN E f168 aE (aXE (.pair sB (.pair (sI .u64) (sN .i64))) (false,[],0)) (pFn 170) sp:=fun a u h =>
 (start a.1 a.2.1 a.2.2.1 a.2.2.2).trans (L false 0 3 (t4 a.1 a.2.1 a.2.2.1 a.2.2.2) (by decide) (all h) 3 0 (by decide))
def aJ:dJ:=orc2 (aXE (.pair sB (.pair (sI .u64) (sN .i64))) (false,[],0)) (pFn 170) sp
theorem ok:OK 168 aJ:=(dY E aE (aA Wg.ok aC) func168).lD rfl spec
end SFirstL4
namespace Wf
def E:=mE [(168,SFirstL4.aJ)] 5 [] [] []
def aE:=bd f122
theorem aT:Nk E aE:=nk
theorem start(a:gW)(b:gW)(c:gW)(d:gW):aF E f122 aE [D.rows 3 4 fun i=>[sc (bool (t4 a b c d i).fst),ints u64 (t4 a b c d i).snd.fst,sc (int i64 (t4 a b c d i).snd.snd)]]=letI G:=t4 a b c d 3;letI F:=t4 a b c d 2;letI K:=(F.fst,F.snd.fst,F.snd.snd);letI C:=t4 a b c d 1;letI I:=(C.fst,C.snd.fst,C.snd.snd);letI B:=t4 a b c d 0;letI H:=(B.fst,B.snd.fst,B.snd.snd);letI A:=SFirstL4.Kr (H,I,K,G.fst,G.snd.fst,G.snd.snd);aN (aU H/\aU I/\aU K/\aU (G.fst,G.snd.fst,G.snd.snd)) (some [D.agg [sc (bool A.fst),ints u64 A.snd.fst,sc (int i64 A.snd.snd)]]):=eJ aT
def sp(a:gW×gW×gW×gW):Prop×List D:=(aU a.1/\aU a.2.1/\aU a.2.2.1/\aU a.2.2.2,[.agg [.sc (.bool (SFirstL4.Kr a).1),.ints .u64 (SFirstL4.Kr a).2.1,.sc (.int .i64 (SFirstL4.Kr a).2.2)]])
theorem spec:iS E f122 aE (aXE (.pair sB (.pair (sI .u64) (sN .i64))) (false,[],0)) sp:=fun a h =>
 (start a.1 a.2.1 a.2.2.1 a.2.2.2).trans (gP h)
def aJ:dJ:=orc1 (aXE (.pair sB (.pair (sI .u64) (sN .i64))) (false,[],0)) sp
theorem ok:OK 122 aJ:=(dY E aE (aA SFirstL4.ok aC) func122).oU rfl spec
end Wf
namespace Wj
def E:=mE [(120,Jj.aJ)] 9 [] [] []
def aE:=bd f169
theorem aT:Nk E aE:=nk
theorem start a b c d e f:aF E f169 aE [D.agg [sc (bool a),ints u64 b,sc (int i64 c)],D.agg [sc (bool d),ints u64 e,sc (int i64 f)]]=aN (aU (a,b,c)/\aU (d,e,f)) (some [D.s (sc (bool (decide (0<eZ (dv (a,b,c)) (dv (d,e,f))))))]):=eJ aT
def sp(x y:gW):Prop×List D:=(aU x/\aU y,[.s (.sc (.bool (decide (0<eZ (dv x) (dv y)))))])
theorem spec:fN E f169 aE kA kA sp:=by
 intro x y h;exact(start x.1 x.2.1 x.2.2 y.1 y.2.1 y.2.2).trans (gP h)
def aJ:dJ:=orc2 kA kA sp
theorem ok:OK 169 aJ:=(dY E aE (aA Jj.ok aC) func169).lD rfl spec
end Wj
namespace SFirstG4
def E:=mE [(169,Wj.aJ)] 25 [] [(3,[1,4,5,12,13,14])] []
def aE:=bd f168
theorem aT:Nk E aE:=nk
def L3 a b c d e (f:Nat) (g:Nat->Bool) (h:Nat->List Int) (j:Nat->Int) k l:=qA E f168 aE 3 [vA (sc (Value.func (Fn.func 169) { toList:=[] } { toList:=[] })),dR 1 29 [dG a,sc (slice none 0 0),cF b],dR 2 29 [dG c,gM d,cF e],(A.v (V.one (L.rows 3 f fun i=>[sc (bool (g i)),ints u64 (h i),sc (int i64 (j i))])),none),bP k,bP l]
theorem start(a:gW)(b:gW)(c:gW)(d:gW):aF E f168 aE [D.rows 3 4 fun i=>[sc (bool (t4 a b c d i).fst),ints u64 (t4 a b c d i).snd.fst,sc (int i64 (t4 a b c d i).snd.snd)],D.s (sc (Value.func (Fn.func (169:FuncId)) #[] #[]))]=letI A:=t4 a b c d (cPW 0);SFirstG4.L3 false 0 A.fst A.snd.fst A.snd.snd 3 (fun i=>(t4 a b c d (cPW 1+i)).fst) (fun i=>(t4 a b c d (cPW 1+i)).snd.fst) (fun i=>(t4 a b c d (cPW 1+i)).snd.snd) 3 0:=eJ aT
theorem xH a b c d e f g h j k l:L3 a b c d e f g h j k l=letI A:=(g l.toNat,h l.toNat,j l.toNat);aB (decide (l<k)) (if 0<=l/\l<(f:Int)then aN (aU A/\aU (c,d,e)) (aB (decide (0<eZ (dv A) (dv (c,d,e)))) (SFirstG4.L3 a b (g l.toNat) (h l.toNat) (j l.toNat) f (fun i=>g i) (fun i=>h i) (fun i=>j i) k (i64.wrap (l+1))) (SFirstG4.L3 a b c d e f (fun i=>g i) (fun i=>h i) (fun i=>j i) k (i64.wrap (l+1))))else none) (some [D.agg [sc (bool c),ints u64 d,sc (int i64 e)]]):=lJ aT
def best(f:Nat->gW):Nat->gW
 |0=>f 0
 |k+1=>bif decide (0<eZ (dv (f (k+1))) (dv (best f k)))then f (k+1)else best f k
def Kr(a:gW×gW×gW×gW):gW:=best (t4 a.1 a.2.1 a.2.2.1 a.2.2.2) 3
def sp(a:gW×gW×gW×gW)(u:Unit):Prop×List D:=(aU a.1/\aU a.2.1/\aU a.2.2.1/\aU a.2.2.2,[.agg [.sc (.bool (Kr a).1),.ints .u64 (Kr a).2.1,.sc (.int .i64 (Kr a).2.2)]])
theorem zR{f:Nat->gW}{n:Nat}(hf:∀i,i<n->aU (f i)):∀k,k<n->aU (best f k)
 |0,h=>hf 0 h
 |k+1,h=>by
  unfold best;cases decide (0<eZ (dv (f (k+1))) (dv (best f k)))
  ·exact zR hf k (by omega)
  ·exact hf (k+1) h
theorem L(b0:Bool)(x1:Int)(n:Nat)(f:Nat->gW)(hn:n<1000)(hf:∀i,i<n+1->aU (f i)):∀d k:Nat,k+d=n->L3 b0 x1 (best f k).1 (best f k).2.1 (best f k).2.2 n (fun i=>(f (1+i)).1) (fun i=>(f (1+i)).2.1) (fun i=>(f (1+i)).2.2) (n:Int) (k:Int)=some [.agg [.sc (.bool (best f n).1),.ints .u64 (best f n).2.1,.sc (.int .i64 (best f n).2.2)]]
 |0,k,h=>by
  obtain rfl:k=n:=by omega
  rw[xH,aL]
 |d+1,k,h=>by
  have e:i64.wrap ((k:Int)+1)=((k+1:Nat):Int):=by rw[wrap_i64];omega
  have r:=L b0 x1 n f hn hf d (k+1) (by omega);have g1:aU (f (1+k)):=hf _ (by omega);have g2:aU (best f k):=zR hf k (by omega);have c1:f (k+1)=f (1+k):=by rw[Nat.add_comm]
  rw[xH,aM,aR,cFM,gP ⟨g1,g2⟩,e]
  by_cases hc:0<eZ (dv (f (k+1))) (dv (best f k))
  ·have hb:best f (k+1)=f (1+k):=by
    rw[<-c1];show(bif decide (0<eZ (dv (f (k+1))) (dv (best f k)))then f (k+1)else best f k)=_;rw[decide_eq_true hc];rfl
   rw[c1]at hc;rw[aM hc];rw[hb]at r;exact r
  ·have hb:best f (k+1)=best f k:=by
    show(bif decide (0<eZ (dv (f (k+1))) (dv (best f k)))then f (k+1)else best f k)=_;rw[decide_eq_false hc];rfl
   rw[c1]at hc;rw[aL hc];rw[hb]at r;exact r
theorem all{a:gW×gW×gW×gW}(h:aU a.1/\aU a.2.1/\aU a.2.2.1/\aU a.2.2.2):∀i,i<4->aU (t4 a.1 a.2.1 a.2.2.1 a.2.2.2 i):=fun i hi=>by
  obtain rfl |rfl |rfl |rfl:i=0\/i=1\/i=2\/i=3:=by omega
  ·exact h.1
  ·exact h.2.1
  ·exact h.2.2.1
  ·exact h.2.2.2
theorem aDJ{a:gW×gW×gW×gW}(h:aU a.1/\aU a.2.1/\aU a.2.2.1/\aU a.2.2.2):aU (Kr a):=zR (n:=4) (all h) 3 (by decide)
theorem spec:fN E f168 aE (aXE (.pair sB (.pair (sI .u64) (sN .i64))) (false,[],0)) (pFn 169) sp:=fun a u h =>
 (start a.1 a.2.1 a.2.2.1 a.2.2.2).trans (L false 0 3 (t4 a.1 a.2.1 a.2.2.1 a.2.2.2) (by decide) (all h) 3 0 (by decide))
def aJ:dJ:=orc2 (aXE (.pair sB (.pair (sI .u64) (sN .i64))) (false,[],0)) (pFn 169) sp
theorem ok:OK 168 aJ:=(dY E aE (aA Wj.ok aC) func168).lD rfl spec
end SFirstG4
namespace Wh
def E:=mE [(168,SFirstG4.aJ)] 5 [] [] []
def aE:=bd f121
theorem aT:Nk E aE:=nk
theorem start(a:gW)(b:gW)(c:gW)(d:gW):aF E f121 aE [D.rows 3 4 fun i=>[sc (bool (t4 a b c d i).fst),ints u64 (t4 a b c d i).snd.fst,sc (int i64 (t4 a b c d i).snd.snd)]]=letI G:=t4 a b c d 3;letI F:=t4 a b c d 2;letI K:=(F.fst,F.snd.fst,F.snd.snd);letI C:=t4 a b c d 1;letI I:=(C.fst,C.snd.fst,C.snd.snd);letI B:=t4 a b c d 0;letI H:=(B.fst,B.snd.fst,B.snd.snd);letI A:=SFirstG4.Kr (H,I,K,G.fst,G.snd.fst,G.snd.snd);aN (aU H/\aU I/\aU K/\aU (G.fst,G.snd.fst,G.snd.snd)) (some [D.agg [sc (bool A.fst),ints u64 A.snd.fst,sc (int i64 A.snd.snd)]]):=eJ aT
def sp(a:gW×gW×gW×gW):Prop×List D:=(aU a.1/\aU a.2.1/\aU a.2.2.1/\aU a.2.2.2,[.agg [.sc (.bool (SFirstG4.Kr a).1),.ints .u64 (SFirstG4.Kr a).2.1,.sc (.int .i64 (SFirstG4.Kr a).2.2)]])
theorem spec:iS E f121 aE (aXE (.pair sB (.pair (sI .u64) (sN .i64))) (false,[],0)) sp:=fun a h =>
 (start a.1 a.2.1 a.2.2.1 a.2.2.2).trans (gP h)
def aJ:dJ:=orc1 (aXE (.pair sB (.pair (sI .u64) (sN .i64))) (false,[],0)) sp
theorem ok:OK 121 aJ:=(dY E aE (aA SFirstG4.ok aC) func121).oU rfl spec
end Wh
namespace SMul
def E:Env:={ ({ base with C:=callsOf [(117,zW.aJ),(155,fA.aJ),(122,Wf.aJ),(121,Wh.aJ),(118,Ce.aJ)],roll:=tlook [(6,3),(9,3)] })with nt:=69,own:=[20,48,66],keep:=fun k=>(tlook [(9,[2,4,6,9,11,29,30,31,39,40,41]),(6,[2,4,6,9,29,30,31])] k).getD [],cut:=tlook [(17,[2,6,1000009])] }
def aE:=bd f114
theorem start a b d e f g h i j k l m c:aF E f114 aE [D.agg [sc (bool a),ints u64 b,sc (int i64 d),sc (bool e),ints u64 f,sc (int i64 g)],D.agg [sc (bool h),ints u64 i,sc (int i64 j),sc (bool k),ints u64 l,sc (int i64 m)],D.s (sc (int i64 c))]=aN (fD (a,b,d,e,f,g)/\fD (h,i,j,k,l,m)) (aD (if 1<=c/\c<=70000 then(0:Int)else(1:Int)) fun n=>aB (n !=0) (some [D.agg [sc (bool false),sc (slice none 0 0),sc (int i64 0),sc (bool false),sc (slice none 0 0),sc (int i64 0)],D.s (sc (int i64 n))]) (aN (aU (a,b,d)/\aU (h,i,j)) (aD (isNeg (bif fA.mY (dv (a,b,d)) (dv (h,i,j))then fA.gZ (dv (a,b,d)) (dv (h,i,j))else((0:Int),(0:Int))).fst) fun o=>aD (M6.dg (bif fA.mY (dv (a,b,d)) (dv (h,i,j))then fA.gZ (dv (a,b,d)) (dv (h,i,j))else((0:Int),(0:Int))).fst.natAbs) fun p=>aD (bif fA.mY (dv (a,b,d)) (dv (h,i,j))then fA.gZ (dv (a,b,d)) (dv (h,i,j))else((0:Int),(0:Int))).snd fun q=>aD (bif fA.mY (dv (a,b,d)) (dv (h,i,j))then(0:Int)else(5:Int)) fun r=>aB (r !=0) (some [D.agg [sc (bool false),sc (slice none 0 0),sc (int i64 0),sc (bool false),sc (slice none 0 0),sc (int i64 0)],D.s (sc (int i64 r))]) (aN (aU (a,b,d)/\aU (k,l,m)) (aD (isNeg (bif fA.mY (dv (a,b,d)) (dv (k,l,m))then fA.gZ (dv (a,b,d)) (dv (k,l,m))else((0:Int),(0:Int))).fst) fun s=>aD (M6.dg (bif fA.mY (dv (a,b,d)) (dv (k,l,m))then fA.gZ (dv (a,b,d)) (dv (k,l,m))else((0:Int),(0:Int))).fst.natAbs) fun t=>aD (bif fA.mY (dv (a,b,d)) (dv (k,l,m))then fA.gZ (dv (a,b,d)) (dv (k,l,m))else((0:Int),(0:Int))).snd fun u=>aD (bif fA.mY (dv (a,b,d)) (dv (k,l,m))then(0:Int)else(5:Int)) fun v=>aB (v !=0) (some [D.agg [sc (bool false),sc (slice none 0 0),sc (int i64 0),sc (bool false),sc (slice none 0 0),sc (int i64 0)],D.s (sc (int i64 v))]) (aN (aU (e,f,g)/\aU (h,i,j)) (aD (isNeg (bif fA.mY (dv (e,f,g)) (dv (h,i,j))then fA.gZ (dv (e,f,g)) (dv (h,i,j))else((0:Int),(0:Int))).fst) fun w=>aD (M6.dg (bif fA.mY (dv (e,f,g)) (dv (h,i,j))then fA.gZ (dv (e,f,g)) (dv (h,i,j))else((0:Int),(0:Int))).fst.natAbs) fun x=>aD (bif fA.mY (dv (e,f,g)) (dv (h,i,j))then fA.gZ (dv (e,f,g)) (dv (h,i,j))else((0:Int),(0:Int))).snd fun y=>aD (bif fA.mY (dv (e,f,g)) (dv (h,i,j))then(0:Int)else(5:Int)) fun z=>aB (z !=0) (some [D.agg [sc (bool false),sc (slice none 0 0),sc (int i64 0),sc (bool false),sc (slice none 0 0),sc (int i64 0)],D.s (sc (int i64 z))]) (aN (aU (e,f,g)/\aU (k,l,m)) (aD (isNeg (bif fA.mY (dv (e,f,g)) (dv (k,l,m))then fA.gZ (dv (e,f,g)) (dv (k,l,m))else((0:Int),(0:Int))).fst) fun aa=>aD (M6.dg (bif fA.mY (dv (e,f,g)) (dv (k,l,m))then fA.gZ (dv (e,f,g)) (dv (k,l,m))else((0:Int),(0:Int))).fst.natAbs) fun ab=>aD (bif fA.mY (dv (e,f,g)) (dv (k,l,m))then fA.gZ (dv (e,f,g)) (dv (k,l,m))else((0:Int),(0:Int))).snd fun ac=>aD (bif fA.mY (dv (e,f,g)) (dv (k,l,m))then(0:Int)else(5:Int)) fun ad=>aB (ad !=0) (some [D.agg [sc (bool false),sc (slice none 0 0),sc (int i64 0),sc (bool false),sc (slice none 0 0),sc (int i64 0)],D.s (sc (int i64 ad))]) (aN (aU (o,p,q)/\aU (s,t,u)/\aU (w,x,y)/\aU (aa,ab,ac)) (aD (SFirstL4.Kr ((o,p,q),(s,t,u),(w,x,y),aa,ab,ac)).fst fun ae=>aD (SFirstL4.Kr ((o,p,q),(s,t,u),(w,x,y),aa,ab,ac)).snd.fst fun af=>aD (SFirstL4.Kr ((o,p,q),(s,t,u),(w,x,y),aa,ab,ac)).snd.snd fun ag=>aN (aU (o,p,q)/\aU (s,t,u)/\aU (w,x,y)/\aU (aa,ab,ac)) (aD (SFirstG4.Kr ((o,p,q),(s,t,u),(w,x,y),aa,ab,ac)).fst fun ah=>aD (SFirstG4.Kr ((o,p,q),(s,t,u),(w,x,y),aa,ab,ac)).snd.fst fun ai=>aD (SFirstG4.Kr ((o,p,q),(s,t,u),(w,x,y),aa,ab,ac)).snd.snd fun aj=>aN (aU (ae,af,ag)/\aU (ah,ai,aj)/\(1<=c/\c<=70000)/\yQ false (dv (ae,af,ag)) c=true/\yQ true (dv (ah,ai,aj)) c=true) (aD (isNeg (M.shD false (dv (ae,af,ag)) c).fst) fun ak=>aD (M6.dg (M.shD false (dv (ae,af,ag)) c).fst.natAbs) fun al=>aD (M.shD false (dv (ae,af,ag)) c).snd fun am=>aD (isNeg (M.shD true (dv (ah,ai,aj)) c).fst) fun an=>aD (M6.dg (M.shD true (dv (ah,ai,aj)) c).fst.natAbs) fun ao=>aD (M.shD true (dv (ah,ai,aj)) c).snd fun ap=>some [D.agg [sc (bool ak),ints u64 al,sc (int i64 am),sc (bool an),ints u64 ao,sc (int i64 ap)],D.s (sc (int i64 0))]))))))))))))):=by kernel_rfl
def Bf(a b:(Int×Int)×(Int×Int)):Int×Int:=Nm (Nm (Nm (fA.gZ a.1 b.1) (fA.gZ a.1 b.2)) (fA.gZ a.2 b.1)) (fA.gZ a.2 b.2)
def Bg(a b:(Int×Int)×(Int×Int)):Int×Int:=Oi (Oi (Oi (fA.gZ a.1 b.1) (fA.gZ a.1 b.2)) (fA.gZ a.2 b.1)) (fA.gZ a.2 b.2)
def aUG(a b:(Int×Int)×(Int×Int)):Prop:=fA.mY a.1 b.1=true/\fA.mY a.1 b.2=true/\fA.mY a.2 b.1=true/\fA.mY a.2 b.2=true
abbrev eS(s:yM):(Int×Int)×(Int×Int):=(dv (iO s),dv (iP s))
def sp(s t:yM)(p:Int):Prop×List D:=((fD s/\fD t)/\(1<=p/\p<=70000)/\aUG (eS s) (eS t)/\yQ false (Bf (eS s) (eS t)) p=true/\yQ true (Bg (eS s) (eS t)) p=true,[wY (shD false (Bf (eS s) (eS t)) p) (shD true (Bg (eS s) (eS t)) p),.s (.sc (.int .i64 0))])
theorem Lj{p q:Int×Int}(h:fA.mY p q=true):kQ (fA.gZ p q):=by
 unfold fA.mY at h;rw[cBV]at h;exact iF h.2 (of_decide_eq_true h.1)
theorem bVY(a:gW×gW×gW×gW):dv (SFirstL4.Kr a)=Nm (Nm (Nm (dv a.1) (dv a.2.1)) (dv a.2.2.1)) (dv a.2.2.2):=by
 have st:∀x y:gW,dv (bif decide (eZ (dv x) (dv y)<0)then x else y)=Nm (dv y) (dv x):=by
  intro x y;unfold Nm;cases decide (eZ (dv x) (dv y)<0) <;> rfl
 show dv (bif decide (eZ (dv a.2.2.2) (dv (bif decide (eZ (dv a.2.2.1) (dv (bif decide (eZ (dv a.2.1) (dv a.1)<0)then a.2.1 else a.1))<0)then a.2.2.1 else(bif decide (eZ (dv a.2.1) (dv a.1)<0)then a.2.1 else a.1)))<0)then a.2.2.2 else(bif decide (eZ (dv a.2.2.1) (dv (bif decide (eZ (dv a.2.1) (dv a.1)<0)then a.2.1 else a.1))<0)then a.2.2.1 else(bif decide (eZ (dv a.2.1) (dv a.1)<0)then a.2.1 else a.1)))=_;rw[st,st,st]
theorem cAN(a:gW×gW×gW×gW):dv (SFirstG4.Kr a)=Oi (Oi (Oi (dv a.1) (dv a.2.1)) (dv a.2.2.1)) (dv a.2.2.2):=by
 have st:∀x y:gW,dv (bif decide (0<eZ (dv x) (dv y))then x else y)=Oi (dv y) (dv x):=by
  intro x y;unfold Oi;cases decide (0<eZ (dv x) (dv y)) <;> rfl
 show dv (bif decide (0<eZ (dv a.2.2.2) (dv (bif decide (0<eZ (dv a.2.2.1) (dv (bif decide (0<eZ (dv a.2.1) (dv a.1))then a.2.1 else a.1)))then a.2.2.1 else(bif decide (0<eZ (dv a.2.1) (dv a.1))then a.2.1 else a.1))))then a.2.2.2 else(bif decide (0<eZ (dv a.2.2.1) (dv (bif decide (0<eZ (dv a.2.1) (dv a.1))then a.2.1 else a.1)))then a.2.2.1 else(bif decide (0<eZ (dv a.2.1) (dv a.1))then a.2.1 else a.1)))=_;rw[st,st,st]
theorem spec:oG E f114 aE Ae Ae (pN .i64) sp:=by
 rintro s t p ⟨⟨h1,h2⟩,hp,⟨m1,m2,m3,m4⟩,i1,i2⟩;have hL:aU (s.1,s.2.1,s.2.2.1):=h1.1;have hH:aU (s.2.2.2.1,s.2.2.2.2.1,s.2.2.2.2.2):=h1.2.1;have kL:aU (t.1,t.2.1,t.2.2.1):=h2.1;have kH:aU (t.2.2.2.1,t.2.2.2.2.1,t.2.2.2.2.2):=h2.2.1;refine(start s.1 s.2.1 s.2.2.1 s.2.2.2.1 s.2.2.2.2.1 s.2.2.2.2.2 t.1 t.2.1 t.2.2.1 t.2.2.2.1 t.2.2.2.2.1 t.2.2.2.2.2 p).trans ?_;unfold sp Bf Bg eS at *;dsimp only at *;unfold iO iP at *;generalize ha:dv (s.1,s.2.1,s.2.2.1)=a at *;generalize hb:dv (s.2.2.2.1,s.2.2.2.2.1,s.2.2.2.2.2)=b at *;generalize hc:dv (t.1,t.2.1,t.2.2.1)=c at *;generalize hd:dv (t.2.2.2.1,t.2.2.2.2.1,t.2.2.2.2.2)=d at *;have d1:=dW (Lj m1);have d2:=dW (Lj m2);have d3:=dW (Lj m3);have d4:=dW (Lj m4);have e1:=dZ (fA.gZ a c);have e2:=dZ (fA.gZ a d);have e3:=dZ (fA.gZ b c);have e4:=dZ (fA.gZ b d);rw[gP ⟨h1,h2⟩,aI,if_pos hp,gR rfl,gP ⟨hL,kL⟩];simp only[aI,m1,m2,m3,m4,cond_true];rw[gR rfl,gP ⟨hL,kH⟩,gR rfl,gP ⟨hH,kL⟩,gR rfl,gP ⟨hH,kH⟩,gR rfl];obtain⟨Q,hQ⟩:∃Q:gW×gW×gW×gW,Q=((isNeg (fA.gZ a c).1,M6.dg (fA.gZ a c).1.natAbs,(fA.gZ a c).2),(isNeg (fA.gZ a d).1,M6.dg (fA.gZ a d).1.natAbs,(fA.gZ a d).2),(isNeg (fA.gZ b c).1,M6.dg (fA.gZ b c).1.natAbs,(fA.gZ b c).2),(isNeg (fA.gZ b d).1,M6.dg (fA.gZ b d).1.natAbs,(fA.gZ b d).2)):=⟨_,rfl⟩;have dQ:aU Q.1/\aU Q.2.1/\aU Q.2.2.1/\aU Q.2.2.2:=by rw[hQ];exact⟨d1,d2,d3,d4⟩
 have v1:=bVY Q;have v2:=cAN Q;have k1:=SFirstL4.aDJ dQ;have k2:=SFirstG4.aDJ dQ;rw[show dv Q.1=fA.gZ a c by rw[hQ];exact e1,show dv Q.2.1=fA.gZ a d by rw[hQ];exact e2,show dv Q.2.2.1=fA.gZ b c by rw[hQ];exact e3,show dv Q.2.2.2=fA.gZ b d by rw[hQ];exact e4]at v1 v2;rw[gP ⟨d1,d2,d3,d4⟩,gP ⟨d1,d2,d3,d4⟩,<-hQ];rw[<-v1]at i1 ⊢;rw[<-v2]at i2 ⊢;exact gP ⟨k1,k2,hp,i1,i2⟩
def aJ:dJ:=orc3 Ae Ae (pN .i64) sp
theorem fnok:uU prog E 114 f114 aE:=aJB tN mixed (nI _ rfl (aA zW.ok (aA fA.ok (aA Wf.ok (aA Wh.ok (aA Ce.ok aC))))) (pJ)) func114 rfl rfl rfl
theorem ok:mM prog base.glob 114 aJ:=fnok.xN rfl spec
end SMul
end W
namespace M
open Go AI W
theorem Un{a b x:Rat}{y:Rat}(h1:a<=x)(h2:x<=b):(a*y<=x*y\/b*y<=x*y)/\(x*y<=a*y\/x*y<=b*y):=by
 by_cases h:0<=y
 ·have m1:=R.aG (show 0<=x-a by grind) h;have m2:=R.aG (show 0<=b-x by grind) h;exact⟨.inl (by grind),.inr (by grind)⟩
 ·have m1:=R.aG (show 0<=x-a by grind) (show 0<=-y by grind);have m2:=R.aG (show 0<=b-x by grind) (show 0<=-y by grind);exact⟨.inr (by grind),.inl (by grind)⟩
theorem aZS{a b:(Int×Int)×(Int×Int)}{x y:Rat}(h1:R.qz a.1<=x)(h2:x<=R.qz a.2)(h3:R.qz b.1<=y)(h4:y<=R.qz b.2):R.qz (SMul.Bf a b)<=x*y/\x*y<=R.qz (SMul.Bg a b):=by
 obtain⟨l1,l2⟩:=aCF (fA.gZ a.1 b.1) (fA.gZ a.1 b.2);obtain⟨l3,l4⟩:=aCF (Nm (fA.gZ a.1 b.1) (fA.gZ a.1 b.2)) (fA.gZ a.2 b.1);obtain⟨l5,l6⟩:=aCF (Nm (Nm (fA.gZ a.1 b.1) (fA.gZ a.1 b.2)) (fA.gZ a.2 b.1)) (fA.gZ a.2 b.2);obtain⟨g1,g2⟩:=aCW (fA.gZ a.1 b.1) (fA.gZ a.1 b.2);obtain⟨g3,g4⟩:=aCW (Oi (fA.gZ a.1 b.1) (fA.gZ a.1 b.2)) (fA.gZ a.2 b.1);obtain⟨g5,g6⟩:=aCW (Oi (Oi (fA.gZ a.1 b.1) (fA.gZ a.1 b.2)) (fA.gZ a.2 b.1)) (fA.gZ a.2 b.2);change R.qz (SMul.Bf a b)<=_ at l5 l6;change _<=R.qz (SMul.Bg a b)at g5 g6;rw[Fy]at l1 l2 l4 l6 g1 g2 g4 g6;generalize R.qz (SMul.Bf a b)=L at *;generalize R.qz (SMul.Bg a b)=H at *;generalize R.qz (Nm (Nm (fA.gZ a.1 b.1) (fA.gZ a.1 b.2)) (fA.gZ a.2 b.1))=L2 at *;generalize R.qz (Nm (fA.gZ a.1 b.1) (fA.gZ a.1 b.2))=L1 at *;generalize R.qz (Oi (Oi (fA.gZ a.1 b.1) (fA.gZ a.1 b.2)) (fA.gZ a.2 b.1))=G2 at *;generalize R.qz (Oi (fA.gZ a.1 b.1) (fA.gZ a.1 b.2))=G1 at *;generalize R.qz a.1=a1 at *;generalize R.qz a.2=a2 at *;generalize R.qz b.1=b1 at *;generalize R.qz b.2=b2 at *;obtain⟨m1,m2⟩:=Un (y:=y) h1 h2;obtain⟨p1,p2⟩:=Un (y:=a1) h3 h4;obtain⟨q1,q2⟩:=Un (y:=a2) h3 h4;constructor
 ·rcases m1 with m |m
  ·rcases p1 with p |p <;> grind
  ·rcases q1 with q |q <;> grind
 ·rcases m2 with m |m
  ·rcases p2 with p |p <;> grind
  ·rcases q2 with q |q <;> grind
end M
namespace W
open Go AI M
namespace Wn
def E:=mE [(50,kB.aJ)] 31 [] [] []
def aE:=bd f199
theorem aT:Nk E aE:=nk
theorem start a b c:aF E f199 aE [D.s (ints u64 a),D.s (ints u64 b),D.s (sc (int i64 c))]=letI C:=i64.wrap ((0:Int)-c);letI B:=bif iN (wv (false,b)) C then aQ (wv (false,b)) C else((0:Int),(0:Int));letI A:=bif iN (wv (false,a)) C then aQ (wv (false,a)) C else((0:Int),(0:Int));aN (iE (false,a)/\(-9223372036854775808:Int)<=i64.wrap ((0:Int)-c)/\i64.wrap ((0:Int)-c)<9223372036854775808) (aD (isNeg A.fst) fun d=>aD (M6.dg A.fst.natAbs) fun e=>aD A.snd fun f=>aN (iE (false,b)/\(-9223372036854775808:Int)<=i64.wrap ((0:Int)-c)/\i64.wrap ((0:Int)-c)<9223372036854775808) (aD (isNeg B.fst) fun g=>aD (M6.dg B.fst.natAbs) fun h=>aD B.snd fun i=>some [D.agg [sc (bool d),ints u64 e,sc (int i64 f),sc (bool g),ints u64 h,sc (int i64 i)],D.s (sc (int i64 0))])):=eJ aT
def sp(a b:List Int)(w:Int):Prop×List D:=(iE (false,a)/\iE (false,b)/\(-100000<=w/\w<=100000)/\iN (wv (false,a)) (-w)=true/\iN (wv (false,b)) (-w)=true,[wY (aQ (wv (false,a)) (-w)) (aQ (wv (false,b)) (-w)),.s (.sc (.int .i64 0))])
theorem spec:oG E f199 aE (pI .u64) (pI .u64) (pN .i64) sp:=by
 rintro a b w ⟨ha,hb,hw,i1,i2⟩;have e:i64.wrap (0-w)=-w:=by rw[wrap_i64];omega
 refine(start a b w).trans ?_;rw[e,i1,i2,gP ⟨ha,by omega,by omega⟩];simp only[aI,cond_true];rw[gP ⟨hb,by omega,by omega⟩];rfl
def aJ:dJ:=orc3 (pI .u64) (pI .u64) (pN .i64) sp
theorem ok:OK 199 aJ:=(dY E aE (aA kB.ok aC) func199).xN rfl spec
end Wn
namespace aRW
def E:=mE [(100,wF.aJ),(95,pQ.aJ),(199,Wn.aJ)] 26 [23] [] []
def aE:=bd f153
theorem aT:Nk E aE:=nk
theorem start a b c:aF E f153 aE [D.s (ints u64 a),D.s (sc (int i64 b)),D.s (sc (int i64 c))]=letI F:=int i64 0;letI C:=M6.val a+M6.val (M6.dg 1);letI A:=aQ (wv (false,a)) (-c);aB (b !=0) (some [D.agg [sc (bool false),sc (slice none 0 0),sc F,sc (bool false),sc (slice none 0 0),sc F],D.s (sc (int i64 b))]) (aN ((0:Int)<=(1:Int)/\(1:Int)<(18446744073709551616:Int)) (aN (M6.cN a/\M6.cN (M6.dg 1)/\a.length<=8192/\(M6.dg 1).length<=8192) (aD (bif dK.nS C then M6.dg C else []) fun d=>letI B:=aQ (wv (false,d)) (-c);aN (iE (false,a)/\iE (false,d)/\((-100000:Int)<=c/\c<=100000)/\iN (wv (false,a)) (-c)=true/\iN (wv (false,d)) (-c)=true) (aD (isNeg A.fst) fun e=>aD (M6.dg A.fst.natAbs) fun f=>aD A.snd fun g=>aD (isNeg B.fst) fun h=>aD (M6.dg B.fst.natAbs) fun i=>aD B.snd fun j=>some [D.agg [sc (bool e),ints u64 f,sc (int i64 g),sc (bool h),ints u64 i,sc (int i64 j)],D.s (sc F)])))):=eJ aT
def sp(a:List Int)(e p:Int):Prop×List D:=(e=0/\M6.cN a/\bl (M6.val a)<=100000/\1<=p/\p<=70000,[wY (aQ (M6.val a:Int) (-p)) (aQ ((M6.val a:Int)+1) (-p)),.s (.sc (.int .i64 0))])
theorem spec:oG E f153 aE (pI .u64) (pN .i64) (pN .i64) sp:=by
 rintro a e p ⟨rfl,ha,hb,p0,p1⟩;have hv:M6.val a<2^100000:=dP.1 hb;have bFZ:M6.val a+1<2^100001:=by rw[cGO];omega
 have ok:=eB.aXG bFZ (by omega);have la:a.length<=8192:=by
  have:=eB.mS hv (by omega);rwa [M6.Ln ha]at this
 have l1:(M6.dg 1).length<=8192:=eB.mS (k:=1) (by decide) (by omega);have e1:wv (false,a)=(M6.val a:Int):=rfl;have e2:wv (false,M6.dg (M6.val a+1))=(M6.val a:Int)+1:=by
  show((M6.val (M6.dg (M6.val a+1)):Nat):Int)=_;rw[M6.bD];omega
 have b1:bl (M6.val a+1)<=100001:=dP.2 bFZ;have i1:iN (M6.val a:Int) (-p)=true:=iL (by omega) (by rw[cHH];omega);have i2:iN ((M6.val a:Int)+1) (-p)=true:=iL (by omega) (by rw[show((M6.val a:Int)+1).natAbs=M6.val a+1 by omega];omega);refine(start a 0 p).trans ?_;rw[gR rfl,gP ⟨by decide,by decide⟩,gP ⟨ha,M6.aY _,la,l1⟩,M6.bD,ok,cond_true,aI];refine(gP ⟨⟨ha,fun h=>(by cases h),la⟩,⟨M6.aY _,fun h=>(by cases h),eB.mS bFZ (by omega)⟩,by omega,by rw[e1];exact i1,by rw[e2];exact i2⟩).trans ?_;rw[e1,e2];rfl
def aJ:dJ:=orc3 (pI .u64) (pN .i64) (pN .i64) sp
theorem ok:OK 153 aJ:=(dY E aE (aA wF.ok (aA pQ.ok (aA Wn.ok aC))) func153).xN rfl spec
end aRW
namespace uT
def E:=mE [(152,uC.aJ),(153,aRW.aJ)] 17 [14] [] []
def aE:=bd f112
theorem aT:Nk E aE:=nk
theorem start a:aF E f112 aE [D.s (sc (int i64 a))]=letI C:=M6.dg (R.pF a.toNat);letI A:=(↑(M6.val C):Int);letI F:=aQ A (-a);letI B:=aQ (A+(1:Int)) (-a);aN (1<=a/\a<=70000) (aN ((0:Int)=(0:Int)/\M6.cN C/\bl (M6.val C)<=100000/\1<=a/\a<=70000) (aD (isNeg F.fst) fun b=>aD (M6.dg F.fst.natAbs) fun c=>aD F.snd fun d=>aD (isNeg B.fst) fun e=>aD (M6.dg B.fst.natAbs) fun f=>aD B.snd fun g=>some [D.agg [sc (bool b),ints u64 c,sc (int i64 d),sc (bool e),ints u64 f,sc (int i64 g)],D.s (sc (int i64 0))])):=eJ aT
def vR(p:Int):(Int×Int)×(Int×Int):=(aQ (R.pF p.toNat:Int) (-p),aQ ((R.pF p.toNat:Int)+1) (-p))
def sp(p:Int):Prop×List D:=(1<=p/\p<=70000,[wY (vR p).1 (vR p).2,.s (.sc (.int .i64 0))])
theorem aXF{p:Int}(h:1<=p/\p<=70000):bl (R.pF p.toNat)<=100000:=by
 obtain⟨q,rfl⟩:=cGR (show 0<=p by omega);rw[cFM];have h1:=(R.Bc (q:=q) (by omega)).1;obtain⟨_,p2⟩:=R.iH;have P:(0:Rat)<((2^q:Nat):Rat):=by exact_mod_cast cEP (n:=q) (show 0<2 by decide)
 have m:=R.aG (cGW P) (show 0<=4-R.pi by grind);have h2:(R.pF q:Rat)<=((2^(q+2):Nat):Rat):=by
  have:((2^(q+2):Nat):Rat)=((2^q:Nat):Rat)*4:=by rw[cGP];push_cast;norm_cast
  grind
 have h3:R.pF q<=2^(q+2):=by exact_mod_cast h2
 have h4:R.pF q<2^(q+3):=by
  have:2^(q+3)=2*2^(q+2):=by rw[cGO];omega
  have:=cEP (n:=q+2) (show 0<2 by decide);omega
 have:=dP.2 h4;omega
theorem spec:iS E f112 aE (pN .i64) sp:=by
 intro p h;refine(start p).trans ((gP h).trans ?_);have b:=aXF h;refine(gP ⟨rfl,M6.aY _,by rw[M6.bD];exact b,h.1,h.2⟩).trans ?_;rw[M6.bD];rfl
def aJ:dJ:=orc1 (pN .i64) sp
theorem ok:OK 112 aJ:=(dY E aE (aA uC.ok (aA aRW.ok aC)) func112).oU rfl spec
end uT
namespace iT
def E:=mE [(112,uT.aJ),(113,Fb.aJ),(114,SMul.aJ),(115,nQ.aJ),(116,cV.aJ)] 48 [] [] []
def aE:=bd f64
theorem aT:Nk E aE:=nk
theorem start a c d b:aF E f64 aE [D.agg [sc (bool a),ints u64 c,sc (int i64 d)],D.s (sc (int i64 b))]=letI P:=uT.vR b;letI F:=i64.wrap (b+8);letI A:=SMul.eS ((a,c,d).fst,(a,c,d).snd.fst,(a,c,d).snd.snd,(a,c,d).fst,(a,c,d).snd.fst,(a,c,d).snd.snd);aN (1<=b/\b<=70000) (aD (isNeg P.fst.fst) fun e=>aD (M6.dg P.fst.fst.natAbs) fun f=>aD P.fst.snd fun g=>aD (isNeg P.snd.fst) fun h=>aD (M6.dg P.snd.fst.natAbs) fun i=>aD P.snd.snd fun j=>letI Q:=(e,f,g,h,i,j);letI B:=SMul.eS Q;letI O:=M.shD true (SMul.Bg A B) F;letI I:=M.shD false (SMul.Bf A B) F;aN (aU (a,c,d)) (aN ((fD (a,c,d,a,c,d)/\fD Q)/\(1<=i64.wrap (b+8)/\i64.wrap (b+8)<=70000)/\SMul.aUG (dv (iO ((a,c,d).fst,(a,c,d).snd.fst,(a,c,d).snd.snd,(a,c,d).fst,(a,c,d).snd.fst,(a,c,d).snd.snd)),dv (iP ((a,c,d).fst,(a,c,d).snd.fst,(a,c,d).snd.snd,(a,c,d).fst,(a,c,d).snd.fst,(a,c,d).snd.snd))) (dv (iO Q),dv (iP Q))/\yQ false (SMul.Bf A B) F=true/\yQ true (SMul.Bg A B) F=true) (aD (isNeg I.fst) fun k=>aD (M6.dg I.fst.natAbs) fun l=>aD I.snd fun m=>aD (isNeg O.fst) fun n=>aD (M6.dg O.fst.natAbs) fun o=>aD O.snd fun p=>letI C:=(k,l,m,n,o,p);letI N:=fV.Ms (dv (iP C)) (b+2);letI K:=fV.Mr (dv (iO C)) (b+2);letI H:=bN.tW (dv (cV.Bt C)) (b+2);letI G:=bN.sW (dv (cV.uZ C)) (b+2);aN (nQ.Xn C b) (aD (isNeg K.fst) fun q=>aD (M6.dg K.fst.natAbs) fun r=>aD K.snd fun s=>aD (isNeg N.fst) fun t=>aD (M6.dg N.fst.natAbs) fun u=>aD N.snd fun v=>aN (cV.aDH C b) (aD (isNeg H.fst) fun w=>aD (M6.dg H.fst.natAbs) fun x=>aD H.snd fun y=>aD (isNeg G.fst) fun z=>aD (M6.dg G.fst.natAbs) fun aa=>aD G.snd fun ab=>some [D.agg [sc (bool q),ints u64 r,sc (int i64 s),sc (bool t),ints u64 u,sc (int i64 v)],D.agg [sc (bool w),ints u64 x,sc (int i64 y),sc (bool z),ints u64 aa,sc (int i64 ab)]]))))):=eJ aT
def Ez(r:Int×Int)(q:Int):(Int×Int)×(Int×Int):=(shD false (SMul.Bf (r,r) (uT.vR q)) (q+8),shD true (SMul.Bg (r,r) (uT.vR q)) (q+8))
def bJB(r:Int×Int)(q:Int):yM:=nU (Ez r q).1 (Ez r q).2
def aWB(r:Int×Int)(q:Int):Prop:=fD (nU (uT.vR q).1 (uT.vR q).2)/\SMul.aUG (r,r) (uT.vR q)/\yQ false (SMul.Bf (r,r) (uT.vR q)) (q+8)=true/\yQ true (SMul.Bg (r,r) (uT.vR q)) (q+8)=true/\nQ.Xn (bJB r q) q/\cV.aDH (bJB r q) q
def sp(x:gW)(q:Int):Prop×List D:=(aU x/\(1<=q/\q<=66500)/\aWB (dv x) q,[wY (gS (Ez (dv x) q).1 (Ez (dv x) q).2 (q+2)).1 (gS (Ez (dv x) q).1 (Ez (dv x) q).2 (q+2)).2,wY (gC (Ez (dv x) q).1 (Ez (dv x) q).2 (q+2)).1 (gC (Ez (dv x) q).1 (Ez (dv x) q).2 (q+2)).2])
theorem fold(a b:Int×Int):(isNeg a.1,M6.dg a.1.natAbs,a.2,isNeg b.1,M6.dg b.1.natAbs,b.2)=nU a b:=rfl
theorem spec:fN E f64 aE kA (pN .i64) sp:=by
 rintro x q ⟨hx,hq,h1,h2,h3,h4,h5,h6⟩;obtain⟨a,b,c⟩:=x;have w:i64.wrap (q+8)=q+8:=wrap_i64;have eP:SMul.eS (nU (uT.vR q).1 (uT.vR q).2)=uT.vR q:=by
  show(dv (iO (nU _ _)),dv (iP (nU _ _)))=_;rw[qF,qG]
 have sx:fD (a,b,c,a,b,c):=⟨hx,hx,Tb _⟩;refine(start a b c q).trans ((gP ⟨hq.1,by omega⟩).trans ?_);rw[aI,aI,aI,aI,aI,aI,fold,w,eP];refine(gP hx).trans ((gP ⟨⟨sx,h1⟩,⟨by omega,by omega⟩,by rw[qF,qG];exact h2,h3,h4⟩).trans ?_);rw[aI,aI,aI,aI,aI,aI,fold];have e1:dv (iO (bJB (dv (a,b,c)) q))=(Ez (dv (a,b,c)) q).1:=qF _ _;have e2:dv (iP (bJB (dv (a,b,c)) q))=(Ez (dv (a,b,c)) q).2:=qG _ _;have f:nU (M.shD false (SMul.Bf (SMul.eS (a,b,c,a,b,c)) (uT.vR q)) (q+8)) (M.shD true (SMul.Bg (SMul.eS (a,b,c,a,b,c)) (uT.vR q)) (q+8))=bJB (dv (a,b,c)) q:=rfl;change aN (nQ.Xn (nU (M.shD false (SMul.Bf (SMul.eS (a,b,c,a,b,c)) (uT.vR q)) (q+8)) (M.shD true (SMul.Bg (SMul.eS (a,b,c,a,b,c)) (uT.vR q)) (q+8))) q) _=_;rw[f,gP h5,aI,aI,aI,aI,aI,aI,gP h6,e1,e2];rfl
def aJ:dJ:=orc2 kA (pN .i64) sp
theorem ok:OK 64 aJ:=(dY E aE (aA uT.ok (aA Fb.ok (aA SMul.ok (aA nQ.ok (aA cV.ok aC))))) func64).lD rfl spec
end iT
end W
namespace M
open Go AI W
structure bJD(r:Int×Int):Prop where
 xD:kQ r
 b:bl r.1.natAbs<=1100
 e:-1100<=r.2/\r.2<=0
 q:R.ab (R.qz r)<=1/4
 g:R.pz (-1075)<=R.ab (R.qz r)
theorem aTS{q:Int}(hq:1<=q/\q<=66500):(kQ (uT.vR q).1/\kQ (uT.vR q).2)/\(bl (uT.vR q).1.1.natAbs<=100001/\bl (uT.vR q).2.1.natAbs<=100001)/\(-70000<=(uT.vR q).1.2/\(uT.vR q).1.2<=200000)/\(-70000<=(uT.vR q).2.2/\(uT.vR q).2.2<=200000)/\R.qz (uT.vR q).1<=R.pi/\R.pi<=R.qz (uT.vR q).2/\R.qz (uT.vR q).2-R.qz (uT.vR q).1=R.pz (-q):=by
 have hb:=uT.aXF (p:=q) ⟨hq.1,by omega⟩;have Zf:bl ((R.pF q.toNat:Int)+1).natAbs<=100001:=by
  have h1:=dP.1 hb;refine dP.2 ?_;rw[show((R.pF q.toNat:Int)+1).natAbs=R.pF q.toNat+1 by omega,cGO];omega
 have xP:bl ((R.pF q.toNat:Int)).natAbs<=100001:=by rw[cHH];omega
 have i1:iN (R.pF q.toNat:Int) (-q)=true:=iL (by omega) (by omega);have i2:iN ((R.pF q.toNat:Int)+1) (-q)=true:=iL (by omega) (by omega);have ex:∀z:Int,bl z.natAbs<=100001->-70000<=(aQ z (-q)).2/\(aQ z (-q)).2<=200000:=by
  intro z hz
  by_cases h0:z=0
  ·rw[h0,fR];decide
  ·have h1:=tD (e:=-q) h0;have h2:=(lW (e:=-q) h0).2;have h3:=Jq (n:=z.natAbs) (by omega);have h4:tz z.natAbs<=100001:=by
    rcases Nat.lt_or_ge 100001 (tz z.natAbs)with h |h
    ·have:=dP.1 hz;have h5:2^100001<=2^tz z.natAbs:=eY;omega
    ·exact h
   omega
 have fl:=R.Bc (q:=q.toNat) (by omega);have P:=R.Ue q;have e:R.pz q=((2^q.toNat:Nat):Rat):=by
  have:=R.mI q.toNat;rwa [show((q.toNat:Nat):Int)=q by omega]at this
 rw[<-e]at fl;have z0:=R.dU (-q);have m1:=R.aG (cGW z0) (show 0<=R.pz q*R.pi-(R.pF q.toNat:Rat) by grind);have m2:=R.aG (cGW z0) (show 0<=(R.pF q.toNat:Rat)+1-R.pz q*R.pi by grind);have k:R.pz (-q)*(R.pz q*R.pi)=R.pi:=by rw[<-cMZ,Rat.mul_comm (R.pz (-q)),P];grind
 have q1:R.qz (uT.vR q).1=(R.pF q.toNat:Rat)*R.pz (-q):=by
  show R.qz (aQ _ _)=_;rw[pD,cNB]
 have q2:R.qz (uT.vR q).2=((R.pF q.toNat:Rat)+1)*R.pz (-q):=by
  show R.qz (aQ _ _)=_;rw[pD,cOP,cNB,show((1:Int):Rat)=1 by norm_cast]
 rw[q1,q2];exact⟨⟨iF i1 (by omega),iF i2 (by omega)⟩,⟨cCL (xE _ _) xP,cCL (xE _ _) Zf⟩,ex _ xP,ex _ Zf,by grind,by grind,by grind⟩
theorem aNR{a b:Int×Int}{m n:Nat}(ha:bl a.1.natAbs<=m)(hb:bl b.1.natAbs<=n)(h:m+n<=524288)(e1:-1048576<=a.2+b.2)(e2:a.2+b.2<=500000):fA.mY a b=true/\kQ (fA.gZ a b):=by
 have b0:=cCL (Ja a.1.natAbs b.1.natAbs) (Nat.add_le_add ha hb);rw[<-Int.natAbs_mul]at b0;have i:iN (a.1*b.1) (a.2+b.2)=true:=iL (by omega) (by omega);refine⟨?_,iF i (by omega)⟩;unfold fA.mY fit;rw[i,decide_eq_true (by omega)];rfl
theorem bCN{r:Int×Int}{p:Int}(h:bJD r)(hp:1<=p/\p<=66000):iT.aWB r (p+16)/\bQP (iT.Ez r (p+16)).1 (iT.Ez r (p+16)).2 (p-6) (p+18) (R.qz r*R.pi):=by
 obtain⟨aIO,hb,he,hq,hg⟩:=h;obtain⟨⟨u1,u2⟩,⟨b1,b2⟩,x1,x2,l1,l2,w⟩:=aTS (q:=p+16) (by omega);obtain⟨o1,n1⟩:=aNR hb b1 (by omega) (by omega) (by omega);obtain⟨o2,n2⟩:=aNR hb b2 (by omega) (by omega) (by omega);have sP:fD (nU (uT.vR (p+16)).1 (uT.vR (p+16)).2):=yW u1 u2 (mD.2 (by grind));have mo:SMul.aUG (r,r) (uT.vR (p+16)):=⟨o1,o2,o1,o2⟩;obtain⟨g1,g2⟩:=aZS (a:=(r,r)) (b:=uT.vR (p+16)) (x:=R.qz r) (y:=R.pi) cID cID l1 l2;have pL:kQ (SMul.Bf (r,r) (uT.vR (p+16)))/\(R.qz (SMul.Bf (r,r) (uT.vR (p+16)))=R.qz r*R.qz (uT.vR (p+16)).1\/R.qz (SMul.Bf (r,r) (uT.vR (p+16)))=R.qz r*R.qz (uT.vR (p+16)).2):=by
  unfold SMul.Bf;rw[<-Fy,<-Fy];have ls:∀{s t:Int×Int} {A B:Rat},(kQ s/\(R.qz s=A\/R.qz s=B))->(kQ t/\(R.qz t=A\/R.qz t=B))->kQ (Nm s t)/\(R.qz (Nm s t)=A\/R.qz (Nm s t)=B):=by
   intro s t A B hs ht;rcases aZU s t with h |h <;> rw[h] <;> assumption
  exact ls (ls (ls ⟨n1,.inl rfl⟩ ⟨n2,.inr rfl⟩) ⟨n1,.inl rfl⟩) ⟨n2,.inr rfl⟩
 have pH:kQ (SMul.Bg (r,r) (uT.vR (p+16)))/\(R.qz (SMul.Bg (r,r) (uT.vR (p+16)))=R.qz r*R.qz (uT.vR (p+16)).1\/R.qz (SMul.Bg (r,r) (uT.vR (p+16)))=R.qz r*R.qz (uT.vR (p+16)).2):=by
  unfold SMul.Bg;rw[<-Fy,<-Fy];have ls:∀{s t:Int×Int} {A B:Rat},(kQ s/\(R.qz s=A\/R.qz s=B))->(kQ t/\(R.qz t=A\/R.qz t=B))->kQ (Oi s t)/\(R.qz (Oi s t)=A\/R.qz (Oi s t)=B):=by
   intro s t A B hs ht;rcases bBL s t with h |h <;> rw[h] <;> assumption
  exact ls (ls (ls ⟨n1,.inl rfl⟩ ⟨n2,.inr rfl⟩) ⟨n1,.inl rfl⟩) ⟨n2,.inr rfl⟩
 have z0:=R.dU (-(p+16));have zs:R.pz (-(p+16))<=1/131072:=by
  have:=aZF (p:=p-7) (by omega);rwa [show -(p-7)-23=-(p+16) by omega]at this
 obtain⟨bVK,bVJ⟩:=R.iH;generalize hL:SMul.Bf (r,r) (uT.vR (p+16))=L at *;generalize hH:SMul.Bg (r,r) (uT.vR (p+16))=H at *;generalize aPF:R.qz (uT.vR (p+16)).1=P1 at *;generalize bTI:R.qz (uT.vR (p+16)).2=P2 at *;generalize hz:R.pz (-(p+16))=z at *;have aOE:R.pz (-(p+16)-1)=z/2:=by
  have:=R.oJ (-(p+16));rw[hz]at this;grind
 have a0:=R.aO (R.qz r);have bQL:∀(x y:Rat),0<=y->R.ab (x*y)=R.ab x*y:=fun x y hy=>by rw[R.fX,R.bS hy]
 have p1:0<=P1:=by grind
 have p2:0<=P2:=by grind
 have bUB:∀x:Rat,x=R.qz r*P1\/x=R.qz r*P2->R.ab x<=R.ab (R.qz r)*(16/5)/\R.ab x<=1:=by
  intro x hx;have m1:=R.aG a0 (show 0<=16/5-P1 by grind);have m2:=R.aG a0 (show 0<=16/5-P2 by grind);rcases hx with h |h
  ·rw[h,bQL _ _ p1];grind
  ·rw[h,bQL _ _ p2];grind
 obtain⟨bL,cL⟩:=bUB _ pL.2;obtain⟨bH,cH⟩:=bUB _ pH.2;have wd:R.qz H-R.qz L<=R.ab (R.qz r)*z:=by
  have t1:=R.Dz (R.qz r);have t2:=R.oV (R.qz r);have m1:=R.aG (show 0<=R.ab (R.qz r)-R.qz r by grind) (cGW z0);have m2:=R.aG (show 0<=R.ab (R.qz r)+R.qz r by grind) (cGW z0);have m3:=R.aG a0 (cGW z0);have e:R.qz r*P2=R.qz r*P1+R.qz r*z:=by
   rw[show P2=P1+z by grind];grind
  rcases pL.2 with h |h <;> rcases pH.2 with h' |h' <;> rw[h,h'] <;> grind
 have bLD:(1:Rat)<=R.pz 1100:=by rw[<-R.fM];exact R.cY (by decide)
 obtain⟨i1,i2,bx⟩:=aFW (s:=(L,H)) (V:=R.qz r*R.pi) (m:=0) (n:=p+16+8) pL.1 pH.1 cID (by dsimp only;grind) (by dsimp only;grind) wd (by omega) (by dsimp only;grind) (by dsimp only;grind);have eA:iT.Ez r (p+16)=(shD false L (p+16+8),shD true H (p+16+8)):=by
  unfold iT.Ez;rw[hL,hH]
 have e7:R.pz (1-(p+16+8))*128=z:=by
  have:=R.fU (-(p+16)) (n:=7) (c:=128) (by norm_cast);rw[<-hz,<-this,show 1-(p+16+8)=-(p+16)-((7:Nat):Int) by omega]
 have bCL:R.ab (R.qz r*R.pi)=R.ab (R.qz r)*R.pi:=bQL _ _ (by grind);have bUO:R.pz (-1074)=2*R.pz (-1075):=by
  have:=R.oJ (-1074);rw[show(-1074:Int)-1=-1075 by rfl]at this;grind
 have tr:=aLS (l:=(iT.Ez r (p+16)).1) (h:=(iT.Ez r (p+16)).2) (p:=p-6) (n:=p+18) (r:=R.qz r*R.pi) (by omega) (by omega) (by rw[eA];exact bx.pl) (by rw[eA];exact bx.ph) (by rw[eA];have:=bx.lo;dsimp only at this ⊢;grind) (by rw[eA];have:=bx.hi;dsimp only at this ⊢;grind)
  (by
   rw[eA,bCL,show -(p-6)-23=-(p+16)-1 by omega,aOE];have w2:=bx.wd;dsimp only at w2 ⊢;have m1:=R.aG (cGW z0) a0;have m2:=R.aG (cGW z0) (show 0<=R.ab (R.qz r)*(16/5)-R.ab (R.qz L) by grind);have m3:=R.aG (cGW z0) (show 0<=R.ab (R.qz r)*(16/5)-R.ab (R.qz H) by grind);have m4:=R.aG (R.aG (cGW z0) a0) (show 0<=R.pi-3 by grind);have e8:R.pz (1-(p+16+8))*(R.ab (R.qz L)+R.ab (R.qz H))*128=z*(R.ab (R.qz L)+R.ab (R.qz H)):=by rw[<-e7];grind
   grind)
  (by
   rw[bCL,bUO];have m1:=R.aG a0 (show 0<=R.pi-3 by grind);grind)
  (by
   rw[bCL];have m1:=R.aG a0 (show 0<=314160/100000-R.pi by grind);grind)
 refine⟨⟨sP,mo,by rw[hL];exact i1,by rw[hH];exact i2,?_,?_⟩,tr⟩
 ·have:=tr.so;rw[show p+18-2=p+16 by omega]at this;exact this
 ·have:=tr.co;rw[show p+18-2=p+16 by omega]at this;exact this
end M
namespace W
open Go AI M
namespace mP
def E:=mE [(20,lB.aJ),(119,jR.aJ)] 41 [] [(2,[0,4,7,8,10,15,16])] []
def aE:=bd f66
theorem aT:Nk E aE:=nk
def L2 a b c d e f g h i j k l m n o p q r s t:=qA E f66 aE 2 [bP a,bP b,dR 2 44 [dG c,gM d,cF e,dG f,gM g,cF h],dR 3 44 [dG i,gM j,cF k,dG l,gM m,cF n],dR 4 44 [dG o,sc (slice none 0 0),cF p,dG q,sc (slice none 0 0),cF r],bP s,bP t]
theorem start a b c d f g h i j k l m n o e:aF E f66 aE [D.s (sc (int i64 a)),D.s (sc (int i64 b)),D.agg [sc (bool c),ints u64 d,sc (int i64 f),sc (bool g),ints u64 h,sc (int i64 i)],D.agg [sc (bool j),ints u64 k,sc (int i64 l),sc (bool m),ints u64 n,sc (int i64 o)],D.s (sc (int i64 e))]=mP.L2 a e c d f g h i j k l m n o false 0 false 0 b 0:=eJ aT
theorem mG a b c d e f g h i j k l m n o p q r s t:L2 a b c d e f g h i j k l m n o p q r s t=letI F:=(i,j,k,l,m,n);letI O:=dv (iP F);letI N:=dv (iO F);letI C:=(c,d,e,f,g,h);letI H:=dv (iP C);letI G:=dv (iO C);letI B:=jR.Mz b G H N O;letI K:=aQ B.fst B.snd;letI A:=jR.My b G H N O;letI I:=aQ A.fst A.snd;aB (decide (t<s)) (aN (fD C) (aD (isNeg (-H.fst)) fun u=>aD (M6.dg (-H.fst).natAbs) fun v=>aD H.snd fun w=>aD (isNeg (-G.fst)) fun x=>aD (M6.dg (-G.fst).natAbs) fun y=>aD G.snd fun z=>mP.L2 a b i j k l m n u v w x y z o p q r s (i64.wrap (t+1)))) (aB (a==4) (some [D.agg [sc (bool c),ints u64 d,sc (int i64 e),sc (bool f),ints u64 g,sc (int i64 h)]]) (aB (a==5) (some [D.agg [sc (bool i),ints u64 j,sc (int i64 k),sc (bool l),ints u64 m,sc (int i64 n)]]) (aN (fD C/\fD F/\(1<=b/\b<=70000)/\fZ.uI N O≠0/\(bl G.fst.natAbs<=262144/\bl H.fst.natAbs<=262144/\bl N.fst.natAbs<=262144/\bl O.fst.natAbs<=262144)/\iN A.fst A.snd=true/\iN B.fst B.snd=true) (aD (isNeg I.fst) fun aa=>aD (M6.dg I.fst.natAbs) fun ab=>aD I.snd fun ac=>aD (isNeg K.fst) fun ad=>aD (M6.dg K.fst.natAbs) fun ae=>aD K.snd fun af=>some [D.agg [sc (bool aa),ints u64 ab,sc (int i64 ac),sc (bool ad),ints u64 ae,sc (int i64 af)]])))):=lJ aT
def aWS (fn : Int) (n : Nat) (s c : (Int × Int) × (Int × Int)) (q : Int) : (Int × Int) × (Int × Int) :=
  bif fn == 4 then (VTurned.trn s c n).1 else bif fn == 5 then (VTurned.trn s c n).2 else
    (aQ (jR.My q (VTurned.trn s c n).1.1 (VTurned.trn s c n).1.2 (VTurned.trn s c n).2.1 (VTurned.trn s c n).2.2).1 (jR.My q (VTurned.trn s c n).1.1 (VTurned.trn s c n).1.2 (VTurned.trn s c n).2.1 (VTurned.trn s c n).2.2).2,
     aQ (jR.Mz q (VTurned.trn s c n).1.1 (VTurned.trn s c n).1.2 (VTurned.trn s c n).2.1 (VTurned.trn s c n).2.2).1 (jR.Mz q (VTurned.trn s c n).1.1 (VTurned.trn s c n).1.2 (VTurned.trn s c n).2.1 (VTurned.trn s c n).2.2).2)
def aTP(q:Int)(s c:(Int×Int)×(Int×Int)):Prop:=fZ.uI c.1 c.2≠0/\(bl s.1.1.natAbs<=262144/\bl s.2.1.natAbs<=262144/\bl c.1.1.natAbs<=262144/\bl c.2.1.natAbs<=262144)/\iN (jR.My q s.1 s.2 c.1 c.2).1 (jR.My q s.1 s.2 c.1 c.2).2=true/\iN (jR.Mz q s.1 s.2 c.1 c.2).1 (jR.Mz q s.1 s.2 c.1 c.2).2=true
abbrev eS(s:yM):(Int×Int)×(Int×Int):=(dv (iO s),dv (iP s))
def sp(fn k:Int)(s c:yM)(q:Int):Prop×List D:=((fD s/\fD c)/\(0<=k/\k<=3)/\(1<=q/\q<=70000)/\(fn≠4->fn≠5->aTP q (VTurned.trn (eS s) (eS c) k.toNat).1 (VTurned.trn (eS s) (eS c) k.toNat).2),[wY (aWS fn k.toNat (eS s) (eS c) q).1 (aWS fn k.toNat (eS s) (eS c) q).2])
theorem L(fn q:Int)(hq:1<=q/\q<=70000):∀(d k:Nat) (s c:yM),k+d<=1000->fD s->fD c->(fn≠4->fn≠5->aTP q (VTurned.trn (eS s) (eS c) d).1 (VTurned.trn (eS s) (eS c) d).2) ->
  L2 fn q s.1 s.2.1 s.2.2.1 s.2.2.2.1 s.2.2.2.2.1 s.2.2.2.2.2 c.1 c.2.1 c.2.2.1 c.2.2.2.1 c.2.2.2.2.1 c.2.2.2.2.2 false 0 false 0 ((k+d:Nat):Int) (k:Int)=some [wY (aWS fn d (eS s) (eS c) q).1 (aWS fn d (eS s) (eS c) q).2]
 |0,k,s,c,h,h1,h2,hk=>by
  rw[mG,aL];unfold aWS VTurned.trn;unfold VTurned.trn at hk;dsimp only at hk ⊢
  by_cases f4:fn=4
  ·rw[bJ f4,f4];show _=some [wY (dv (iO s)) (dv (iP s))];rw[h1.wY]
  ·rw[bB f4,beq_eq_false_iff_ne.2 f4,cond_false]
   by_cases f5:fn=5
   ·rw[bJ f5,f5];show _=some [wY (dv (iO c)) (dv (iP c))];rw[h2.wY]
   ·rw[bB f5,beq_eq_false_iff_ne.2 f5,cond_false];obtain⟨k0,k1,k2,k3⟩:=hk f4 f5;exact gP ⟨h1,h2,hq,k0,k1,k2,k3⟩
 |d+1,k,s,c,h,h1,h2,hk=>by
  have e:i64.wrap ((k:Int)+1)=((k+1:Nat):Int):=by rw[wrap_i64];omega
  rw[mG,aM,gP h1];simp only[aI,e];have en:eS (nU (lB.yB (dv (iP s))) (lB.yB (dv (iO s))))=(lB.yB (dv (iP s)),lB.yB (dv (iO s))):=by
   show(dv (iO (nU _ _)),dv (iP (nU _ _)))=_;rw[qF,qG]
  have r:=L fn q hq d (k+1) c (nU (lB.yB (dv (iP s))) (lB.yB (dv (iO s)))) (by omega) h2 (VTurned.aNO h1) (by rw[en];exact hk);rw[en,show k+1+d=k+(d+1) by omega]at r;exact r
theorem spec(fn k:Int)(s c:yM)(q:Int)(h:(sp fn k s c q).1):aF E f66 aE [(pN .i64).put fn,(pN .i64).put k,Ae.put s,Ae.put c,(pN .i64).put q]=some (sp fn k s c q).2:=by
 obtain⟨⟨h1,h2⟩,⟨q0,q1⟩,hq,hk⟩:=h;refine(start fn k s.1 s.2.1 s.2.2.1 s.2.2.2.1 s.2.2.2.2.1 s.2.2.2.2.2 c.1 c.2.1 c.2.2.1 c.2.2.2.1 c.2.2.2.2.1 c.2.2.2.2.2 q).trans ?_;obtain⟨n,rfl⟩:=cGR q0;have:=L fn q hq n 0 s c (by omega) h1 h2 hk;rw[cBR]at this;exact this
def aJ:dJ:=orc5 (pN .i64) (pN .i64) Ae Ae (pN .i64) sp
theorem ok:OK 66 aJ:=(dY E aE (aA lB.ok (aA jR.ok aC)) func66).bLW rfl spec
end mP
end W
namespace M
open Go AI W
def tv(fn k:Int)(s c:Rat):Rat:=if fn=4 then R.rs k s c else if fn=5 then R.rc k s c else R.rs k s c/R.rc k s c
def tS(r:Int×Int)(p:Int):(Int×Int)×(Int×Int):=gS (iT.Ez r (p+16)).1 (iT.Ez r (p+16)).2 (p+18)
def tC(r:Int×Int)(p:Int):(Int×Int)×(Int×Int):=gC (iT.Ez r (p+16)).1 (iT.Ez r (p+16)).2 (p+18)
def tE(fn k:Int)(r:Int×Int)(p:Int):(Int×Int)×(Int×Int):=mP.aWS fn (k%4).toNat (tS r p) (tC r p) (p+16)
def tO(fn k:Int)(r:Int×Int)(p:Int):(Int×Int)×(Int×Int):=(shD false (tE fn k r p).1 (p+20),shD true (tE fn k r p).2 (p+20))
structure cBI(fn k:Int)(r:Int×Int)(p:Int):Prop where
 ci:iT.aWB r (p+16)
 sS:fD (nU (tS r p).1 (tS r p).2)
 sC:fD (nU (tC r p).1 (tC r p).2)
 qu:mP.aTP (p+16) (VTurned.trn (tS r p) (tC r p) (k%4).toNat).1 (VTurned.trn (tS r p) (tC r p) (k%4).toNat).2
 re:fD (nU (tE fn k r p).1 (tE fn k r p).2)
 s1:yQ false (tE fn k r p).1 (p+20)=true
 s2:yQ true (tE fn k r p).2 (p+20)=true
 v0:tv fn k (R.sn (R.qz r*R.pi)) (R.cs (R.qz r*R.pi))≠0
 vl:R.pz (-1075)<=R.ab (tv fn k (R.sn (R.qz r*R.pi)) (R.cs (R.qz r*R.pi)))
 vh:R.ab (tv fn k (R.sn (R.qz r*R.pi)) (R.cs (R.qz r*R.pi)))<=R.pz 1075
 bx:Bx (tO fn k r p) (tv fn k (R.sn (R.qz r*R.pi)) (R.cs (R.qz r*R.pi))) (R.pz (-p-1)*R.ab (tv fn k (R.sn (R.qz r*R.pi)) (R.cs (R.qz r*R.pi)))) (mg (p-6))
 b45:fn=4\/fn=5->Bx (tO fn k r p) (tv fn k (R.sn (R.qz r*R.pi)) (R.cs (R.qz r*R.pi))) (R.pz (-p-5)*R.ab (tv fn k (R.sn (R.qz r*R.pi)) (R.cs (R.qz r*R.pi)))) (mg (p-6))
 bits:(bl (tO fn k r p).1.1.natAbs:Int)<=p+21/\(bl (tO fn k r p).2.1.natAbs:Int)<=p+21
 exps:-p-1200<=(tO fn k r p).1.2/\-p-1200<=(tO fn k r p).2.2
 on:fn=4\/fn=5->On (tO fn k r p)
theorem aHJ{s:(Int×Int)×(Int×Int)}{V ρ m:Rat}(h:Bx s V (ρ*R.ab V) m)(r1:ρ<=1/4)(V0:V≠0) :
  3/4*R.ab V<=R.ab (R.qz s.1)/\R.ab (R.qz s.1)<=5/4*R.ab V/\3/4*R.ab V<=R.ab (R.qz s.2)/\R.ab (R.qz s.2)<=5/4*R.ab V/\0<R.ab V:=by
 obtain⟨_,_,_,_,m0,lo,hi,wd⟩:=h;have a0:0<R.ab V:=by
  unfold R.ab;split <;> grind
 have k:=R.aG (cGW a0) (show 0<=1/4-ρ by grind);generalize hρ:ρ*R.ab V=W at *
 by_cases c:0<V
 ·have e:R.ab V=V:=R.bS (cGW c);rw[e]at a0 k hρ;rw[e];rw[R.bS (show 0<=R.qz s.1 by grind),R.bS (show 0<=R.qz s.2 by grind)];exact⟨by grind,by grind,by grind,by grind,c⟩
 ·have e:R.ab V=-V:=by unfold R.ab;rw[if_neg (by grind)]
  rw[e]at a0 k hρ;rw[e];rw[<-R.iZ,R.bS (show 0<=-R.qz s.1 by grind),<-R.iZ,R.bS (show 0<=-R.qz s.2 by grind)];exact⟨by grind,by grind,by grind,by grind,by grind⟩
theorem aLQ{fn k:Int}{r:Int×Int}{p:Int}(h:bJD r)(hp:1<=p/\p<=66000)(hf:fn=4\/fn=5\/fn=6):cBI fn k r p:=by
 obtain⟨ci,tr⟩:=bCN h hp;obtain⟨_,_,bs,bc,os,oc⟩:=tr;obtain⟨ρ,hρ⟩:∃ρ,ρ=R.qz r*R.pi:=⟨_,rfl⟩;obtain⟨bVK,bVJ⟩:=R.iH;have ar:R.ab ρ=R.ab (R.qz r)*R.pi:=by rw[hρ,R.fX,R.bS (show 0<=R.pi by grind)]
 have a0:=R.aO (R.qz r);have rg:3*R.pz (-1075)<=R.ab ρ:=by
  rw[ar];have:=h.g;have:=R.aG a0 (show 0<=R.pi-3 by grind);grind
 have rn:R.ab ρ<=79/100:=by
  rw[ar];have:=h.q;have:=R.aG a0 (show 0<=314160/100000-R.pi by grind);grind
 rw[<-hρ]at bs bc;rw[show gS (iT.Ez r (p+16)).1 (iT.Ez r (p+16)).2 (p+18)=tS r p from rfl]at bs os;rw[show gC (iT.Ez r (p+16)).1 (iT.Ez r (p+16)).2 (p+18)=tC r p from rfl]at bc oc;rw[show -(p-6)-12=-p-6 by omega]at bs bc;have bLQ:=R.dU (-1075);have bWB:R.pz (-1075)<=1/4:=by
  have:=R.cY (show(-1075:Int)<=-2 by omega);have e:=R.fU 0 (n:=2) (c:=4) (by norm_cast);rw[R.fM,show(0:Int)-((2:Nat):Int)=-2 by rfl]at e;grind
 obtain⟨c1,c2⟩:=R.Zt (r:=ρ) (by grind);have s0:R.pz (-1075)<=R.ab (R.sn ρ)/\R.ab (R.sn ρ)<=1:=by
  rw[<-R.aMP (by grind)];obtain⟨a,b⟩:=R.aEY (R.aO ρ) (by grind);constructor <;> grind
 have s1:R.pz (-1075)<=R.ab (R.cs ρ)/\R.ab (R.cs ρ)<=1:=by
  rw[R.bS (show 0<=R.cs ρ by grind)];constructor <;> grind
 obtain⟨S,hS⟩:∃S,S=R.rs k (R.sn ρ) (R.cs ρ):=⟨_,rfl⟩;obtain⟨C,hC⟩:∃C,C=R.rc k (R.sn ρ) (R.cs ρ):=⟨_,rfl⟩;have sS:R.pz (-1075)<=R.ab S/\R.ab S<=1:=by
  rw[hS,aFH];split <;> assumption
 have sC:R.pz (-1075)<=R.ab C/\R.ab C<=1:=by
  rw[hC,aFM];split <;> assumption
 have Nl:∀v:Rat,R.pz (-1075)<=R.ab v->v≠0:=fun v hv hz=>by rw[hz,R.bS cID]at hv;grind
 have S0:=Nl _ sS.1;have C0:=Nl _ sC.1;obtain⟨z,hz⟩:∃z,z=R.pz (-p-20):=⟨_,rfl⟩;have z0:=R.dU (-p-20);rw[<-hz]at z0;have pw:∀(a:Int) (n:Nat) (c:Rat),a=-p-20+(n:Int)->((2^n:Nat):Rat)=c->R.pz a=c*z:=fun a n c ha hc=>by
  rw[ha,R.eN,hc,hz];grind
 have e6:=pw (-p-6) 14 16384 (by omega) (by norm_cast);have e5:=pw (-p-5) 15 32768 (by omega) (by norm_cast);have e1:=pw (-p-1) 19 524288 (by omega) (by norm_cast);have aKY:=pw (2-(p+16)) 6 64 (by omega) (by norm_cast);have bLC:=pw (1-(p+20)) 1 2 (by omega) (by norm_cast);have zs:z<=1/2097152:=by
  have:=R.cY (show -p-20<=-21 by omega);have e:=R.fU 0 (n:=21) (c:=2097152) (by norm_cast);rw[R.fM,show(0:Int)-((21:Nat):Int)=-21 by rfl]at e;grind
 obtain⟨b1,b2⟩:=Bx.trn bs bc (k:=k);rw[<-hS]at b1;rw[<-hC]at b2;have aZP:=On.trn os oc (k%4).toNat;obtain⟨t,ht⟩:∃t,t=VTurned.trn (tS r p) (tC r p) (k%4).toNat:=⟨_,rfl⟩;rw[<-ht]at b1 b2 aZP;have b1:Bx t.1 S (R.pz (-p-6)*R.ab S) (mg (p-6)):=by
  refine yI b1 ?_;rw[hS,aFH];split <;> exact cID
 have b2:Bx t.2 C (R.pz (-p-6)*R.ab C) (mg (p-6)):=by
  refine yI b2 ?_;rw[hC,aFM];split <;> exact cID
 rw[e6]at b1 b2;have n1:=Iy b1 (by grind) S0;have n2:=Iy b2 (by grind) C0;have bIH:R.pz (-1300)<=R.pz (-1075)/2:=by
  have:=R.oJ (-1075);have:=R.cY (show(-1300:Int)<=-1075-1 by omega);grind
 have z1:Kt t.1.1:=Az b1.bl (vB (by grind)) (by grind) (by grind);have z2:Kt t.1.2:=Az b1.bh (vB (by grind)) (by grind) (by grind);have z3:Kt t.2.1:=Az b2.bl (vB (by grind)) (by grind) (by grind);have z4:Kt t.2.2:=Az b2.bh (vB (by grind)) (by grind) (by grind);have bIC:S/C*C=S:=by grind
 obtain⟨q0,q1,q2,bq⟩:=aMZ (p:=p+16) b1 b2 S0 C0 sC.2 (by grind) (by grind) bIC (by omega) z1 z2 z3 z4;rw[aKY]at bq;have aV:R.ab (S/C)*R.ab C=R.ab S:=by rw[<-R.fX,bIC]
 have bWF:R.pz (-1075)*R.pz 1075=1:=by rw[<-R.jQ];exact R.fM
 have cBK:1<=R.pz 1075:=by rw[<-R.fM];exact R.cY (by omega)
 have tV:R.pz (-1075)<=R.ab (S/C)/\R.ab (S/C)<=R.pz 1075:=by
  have a0:=R.aO (S/C);generalize R.ab (S/C)=a at *;constructor
  ·have:=R.aG a0 (show 0<=1-R.ab C by grind);grind
  ·refine R.cO bLQ ?_;have:=R.aG a0 (show 0<=R.ab C-R.pz (-1075) by grind);grind
 have bQO:=Nl _ tV.1;obtain⟨V,hV⟩:∃V,V=tv fn k (R.sn ρ) (R.cs ρ):=⟨_,rfl⟩;obtain⟨bE,vl,vh,V0,oE⟩:Bx (tE fn k r p) V (200000*z*R.ab V) (mg (p-6))/\R.pz (-1075)<=R.ab V/\R.ab V<=R.pz 1075/\V≠0/\(fn=4\/fn=5->On (tE fn k r p)/\Bx (tE fn k r p) V (16384*z*R.ab V) (mg (p-6))):=by
  rcases hf with rfl |rfl |rfl
  ·have a:V=S:=by rw[hV,hS];rfl
   have b:tE 4 k r p=t.1:=by rw[ht];rfl
   rw[a,b];exact⟨yI b1 (by have:=R.aG (cGW z0) (R.aO S);grind),sS.1,by grind,S0,fun _=>⟨aZP.1,b1⟩⟩
  ·have a:V=C:=by rw[hV,hC];rfl
   have b:tE 5 k r p=t.2:=by rw[ht];rfl
   rw[a,b];exact⟨yI b2 (by have:=R.aG (cGW z0) (R.aO C);grind),sC.1,by grind,C0,fun _=>⟨aZP.2,b2⟩⟩
  ·have a:V=S/C:=by rw[hV,hS,hC];rfl
   have b:tE 6 k r p=(aQ (jR.My (p+16) t.1.1 t.1.2 t.2.1 t.2.2).1 (jR.My (p+16) t.1.1 t.1.2 t.2.1 t.2.2).2,aQ (jR.Mz (p+16) t.1.1 t.1.2 t.2.1 t.2.2).1 (jR.Mz (p+16) t.1.1 t.1.2 t.2.1 t.2.2).2):=by rw[ht];rfl
   rw[a,b];exact⟨yI bq (by have:=R.aG (cGW z0) (R.aO (S/C));grind),tV.1,tV.2,bQO,fun h=>by omega⟩
 have nE:=aHJ bE (by grind) V0;have bJE:2*R.pz 1075<=R.pz 1100:=by rw[<-R.kF];exact R.cY (by omega)
 obtain⟨bLL,bLK,bO⟩:=aCA (n:=p+20) bE (by omega) (by grind) (by grind);rw[bLC]at bO;have bX:Bx (tO fn k r p) V (524288*z*R.ab V) (mg (p-6)):=by
  refine yI bO ?_;have k1:=R.aG (cGW z0) (show 0<=5/4*R.ab V-R.ab (R.qz (tE fn k r p).1) by grind);have k2:=R.aG (cGW z0) (show 0<=5/4*R.ab V-R.ab (R.qz (tE fn k r p).2) by grind);have k3:=R.aG (cGW z0) (R.aO V);grind
 have bY:fn=4\/fn=5->Bx (tO fn k r p) V (32768*z*R.ab V) (mg (p-6)):=by
  intro h;obtain⟨_,_,b⟩:=aCA (n:=p+20) (oE h).2 (by omega) (by grind) (by grind);rw[bLC]at b;refine yI b ?_;have k1:=R.aG (cGW z0) (show 0<=5/4*R.ab V-R.ab (R.qz (tE fn k r p).1) by grind);have k2:=R.aG (cGW z0) (show 0<=5/4*R.ab V-R.ab (R.qz (tE fn k r p).2) by grind);have k3:=R.aG (cGW z0) (R.aO V);grind
 have g1:=Ba false (tE fn k r p).1 (p+20).toNat;have g2:=Ba true (tE fn k r p).2 (p+20).toNat;rw[show(((p+20).toNat:Nat):Int)=p+20 by omega]at g1 g2;have nX:=aHJ bX (by grind) V0;have m1:(tO fn k r p).1.1≠0:=vB (by grind);have m2:(tO fn k r p).2.1≠0:=vB (by grind);have x1:=Lb (up:=false) (p:=(tE fn k r p).1) (n:=p+20) m1;have x2:=Lb (up:=true) (p:=(tE fn k r p).2) (n:=p+20) m2;have bII:R.pz (-1076)<=3/4*R.pz (-1075):=by
  have:=R.oJ (-1075);rw[show(-1075:Int)-1=-1076 by rfl]at this;grind
 have y1:=Ej (p:=(tE fn k r p).1) (E:=-1076) (vB (by grind)) (by grind);have y2:=Ej (p:=(tE fn k r p).2) (E:=-1076) (vB (by grind)) (by grind);have aKP:tv fn k (R.sn (R.qz r*R.pi)) (R.cs (R.qz r*R.pi))=V:=by rw[<-hρ,hV]
 refine⟨ci,bs.Aw,bc.Aw,?_,bE.Aw,bLL,bLK,?_,?_,?_,?_,?_,?_,?_,?_⟩
 ·rw[<-ht];exact⟨q0,⟨cCL z1.1 (by omega),cCL z2.1 (by omega),cCL z3.1 (by omega),cCL z4.1 (by omega)⟩,q1,q2⟩
 ·rw[aKP];exact V0
 ·rw[aKP];exact vl
 ·rw[aKP];exact vh
 ·rw[aKP,e1];exact bX
 ·rw[aKP,e5];exact bY
 ·constructor
  ·show((bl (shD false (tE fn k r p).1 (p+20)).1.natAbs:Nat):Int)<=_;omega
  ·show((bl (shD true (tE fn k r p).2 (p+20)).1.natAbs:Nat):Int)<=_;omega
 ·constructor
  ·show -p-1200<=(shD false (tE fn k r p).1 (p+20)).2;omega
  ·show -p-1200<=(shD true (tE fn k r p).2 (p+20)).2;omega
 ·intro h2;exact⟨Ua (by omega) (oE h2).1.1,Ua (by omega) (oE h2).1.2⟩
theorem aTI{m e:Int}(he:e<0):-p2 (-1-e)<=bC.Qq (m,e)/\bC.Qq (m,e)<p2 (-1-e):=by
 unfold bC.Qq bC.uJ
 try dsimp only
 rw[aP,aP];have h1:p2 (-e)=p2 (-1-e)*2:=by
  have:=uK (m:=-1-e) (n:=1) (by omega) (by omega);rwa [show -1-e+1=-e by omega]at this
 have h2:p2 (1-e)=p2 (-1-e)*4:=by
  have:=uK (m:=-1-e) (n:=2) (by omega) (by omega);rwa [show -1-e+2=1-e by omega]at this
 rw[h1,h2];have hp:=Eo (-1-e);generalize p2 (-1-e)=v at *;have a1:=cKS (m*4+v*2) (v*4);have a2:=cKT (m*4+v*2) (show v*4≠0 by omega);have a3:=cKU (m*4+v*2) (show 0<v*4 by omega);generalize (m*4+v*2)/(v*4)=K at *;have e1:v*4*K=K*v*4:=by rw[Int.mul_comm,cIC]
 have e2:K*(v*2)=K*v*2:=by rw[cIC]
 rw[e1]at a1;rw[e2];generalize K*v=t at *;omega
theorem aZC{a:Int×Int}(he:-1074<=a.2/\a.2<=-2)(ho:a.1%2=1):bJD (bC.Dp a):=by
 obtain⟨m,e⟩:=a;dsimp only at he ho;have rr:=aTI (m:=m) (e:=e) (by omega);have hR:bC.Qq (m,e)=m*2-bC.uJ (m,e)*p2 (-e):=by
  unfold bC.Qq;dsimp only;rw[aP]
 have hD:bC.Dp (m,e)=aQ (bC.Qq (m,e)) (e-1):=rfl;have h4:p2 (-e)=p2 (-2-e)*4:=by
  have:=uK (m:=-2-e) (n:=2) (by omega) (by omega);rwa [show -2-e+2=-e by omega]at this
 rw[h4,<-cIC]at hR;rw[hD];generalize bC.uJ (m,e)*p2 (-2-e)=q at hR;generalize bC.Qq (m,e)=z at *;have z0:z≠0:=by omega
 obtain⟨j,hj⟩:=cGR (show 0<=-1-e by omega);have hp:p2 (-1-e)=((2^j:Nat):Int):=by rw[hj,zB]
 have za:z.natAbs<=2^j:=by omega
 have zb:bl z.natAbs<=j+1:=dP.2 (by rw[cGO];have:=cEP (n:=j) (show 0<2 by decide);omega);have tl:tz z.natAbs<=j:=by
  have:=Jq (n:=z.natAbs) (by omega);rcases Nat.lt_or_ge j (tz z.natAbs)with h |h
  ·have h5:2^(j+1)<=2^tz z.natAbs:=eY;rw[cGO]at h5;have:=cEP (n:=j) (show 0<2 by decide);omega
  ·exact h
 have x1:=(lW (e:=e-1) z0).2;have eq:R.qz (aQ z (e-1))=R.qz (z,e-1):=pD _ _;have e1:R.pz (e-1)*((2^j:Nat):Rat)=1/4:=by
  rw[<-R.eN,show e-1+(j:Int)=-2 by omega];have e:=R.fU 0 (n:=2) (c:=4) (by norm_cast);rw[R.fM,show(0:Int)-((2:Nat):Int)=-2 by rfl]at e;grind
 have P:=R.dU (e-1);refine⟨iF (iL (by omega) (by omega)) (by omega),cCL (xE _ _) (by omega),by omega,?_,?_⟩
 ·rw[eq,Th];have h1:(z.natAbs:Rat)<=((2^j:Nat):Rat):=by exact_mod_cast za
  have:=R.aG (cGW P) (show 0<=((2^j:Nat):Rat)-(z.natAbs:Rat) by grind);dsimp only;grind
 ·rw[eq,Th];have h1:(1:Rat)<=(z.natAbs:Rat):=by exact_mod_cast(show 1<=z.natAbs by omega)
  have:=R.aG (cGW P) (show 0<=(z.natAbs:Rat)-1 by grind);have:=R.cY (show(-1075:Int)<=e-1 by omega);dsimp only;grind
end M
namespace W
open Go AI M
namespace aDW
def E:=mE [(57,aAO.aJ)] 8 [] [] []
def aE:=bd f62
theorem aT:Nk E aE:=nk
theorem start a:aF E f62 aE [D.s (sc (int i64 a))]=letI A:=bif iN a 0 then aQ a 0 else((0:Int),(0:Int));letI C:=M6.dg A.fst.natAbs;letI B:=bool (isNeg A.fst);aN (((-9223372036854775808:Int)<=a/\a<9223372036854775808)/\(-9223372036854775808:Int)<=(0:Int)/\(0:Int)<(9223372036854775808:Int)) (aN (((-9223372036854775808:Int)<=a/\a<9223372036854775808)/\(-9223372036854775808:Int)<=(0:Int)/\(0:Int)<(9223372036854775808:Int)) (some [D.agg [sc B,ints u64 C,sc (int i64 A.snd),sc B,ints u64 C,sc (int i64 A.snd)]])):=eJ aT
def sD(p q:Int×Int):D:=.agg [.sc (.bool (isNeg p.1)),.ints .u64 (M6.dg p.1.natAbs),.sc (.int .i64 p.2),.sc (.bool (isNeg q.1)),.ints .u64 (M6.dg q.1.natAbs),.sc (.int .i64 q.2)]
def sp(m:Int):Prop×List D:=(-9223372036854775808<=m/\m<9223372036854775808,[sD (aQ m 0) (aQ m 0)])
theorem spec:iS E f62 aE (pN .i64) sp:=by
 intro m h;have h:-9223372036854775808<=m/\m<9223372036854775808:=h;refine(start m).trans ?_;have hb:bl m.natAbs<=64:=dP.2 (by omega);rw[gP ⟨h,by omega,by omega⟩,gP ⟨h,by omega,by omega⟩];have e:(bif iN m 0 then aQ m 0 else((0:Int),(0:Int)))=aQ m 0:=by rw[iL (by omega) (by omega)];rfl
 rw[e];rfl
def aJ:dJ:=orc1 (pN .i64) sp
theorem ok:OK 62 aJ:=(dY E aE (aA aAO.ok aC) func62).oU rfl spec
end aDW
namespace He
def bBY(fn:Int)(b:Int):Int:=if(cG.iW 64 b).1=0 then(if fn=5 then 1 else 0)else if(dO.vE fn (cG.iW 64 b)).2.1=true then -(dO.vE fn (cG.iW 64 b)).1 else(dO.vE fn (cG.iW 64 b)).1
end He
namespace tZ
def E:=mE [(61,wT.aJ),(12,bI.aJ),(62,aDW.aJ),(63,dO.aJ),(18,bC.aJ),(64,iT.aJ),(66,mP.aJ),(65,aRN.aJ)] 98 [33] [(3,[0,1,2,6])] [3]
def aE:=bd f19
theorem aT:Nk E aE:=nk
def J3 a b c d e f g:=lK E f19 aE 3 [bP a,dM b,bP c,dR 3 44 [dG d,sc (slice none 0 0),cF e,dG f,sc (slice none 0 0),cF g]]
theorem start a b c:aF E f19 aE [D.s (sc (int i64 a)),D.s (sc (int u64 b)),D.s (sc (int i64 c))]=letI A:=some [D.agg [sc (bool false),sc (slice none 0 0),sc (int i64 0),sc (bool false),sc (slice none 0 0),sc (int i64 0)],D.s (sc (int i64 1))];aN True (aB (!wT.Bl a) A (aB (decide (c<1)) A (aB (decide (66000<c)) A (tZ.J3 a b c false 0 false 0)))):=eJ aT
theorem iB a b c d e f g:J3 a b c d e f g=letI F1:=bool false;letI A1:=aQ 0 0;letI G1:=M6.dg A1.fst.natAbs;letI Z:=aQ 1 0;letI I1:=M6.dg Z.fst.natAbs;letI Y:=slice none 0 0;letI X:=i64.wrap (c+16);letI Q:=int i64 0;letI K:=i64.wrap (c+20);letI G:=bif cT.jL 64 b then bC.Dp (bC.lM b)else((0:Int),(0:Int));letI F:=i64.wrap (c+16)+2;letI C:=bif cR.fH 64 b&&cT.jL 64 b then aQ (bI.lL 64 b) (bI.nA 64 b)else((0:Int),(0:Int));aN (((64:Int)=(32:Int)\/(64:Int)=(64:Int))/\0<=b/\b<18446744073709551616) (aD (isNeg C.fst) fun h=>aD (M6.dg C.fst.natAbs) fun i=>aD C.snd fun j=>letI T:=dO.vE a (dv (h,i,j));aD (bif cR.fH 64 b then bif cT.jL 64 b then(0:Int)else(6:Int)else(2:Int)) fun k=>aB (k !=0) (some [D.agg [sc F1,sc Y,sc Q,sc F1,sc Y,sc Q],D.s (sc (int i64 k))]) (aB ((i.length:Int)==(0:Int)) (aB (a==5) (aN ((-9223372036854775808:Int)<=(1:Int)/\(1:Int)<(9223372036854775808:Int)) (aD (isNeg Z.fst) fun l=>aD I1 fun m=>aD Z.snd fun n=>aD (isNeg Z.fst) fun o=>aD I1 fun p=>aD Z.snd fun q=>some [D.agg [sc (bool l),ints u64 m,sc (int i64 n),sc (bool o),ints u64 p,sc (int i64 q)],D.s (sc Q)])) (aN ((-9223372036854775808:Int)<=(0:Int)/\(0:Int)<(9223372036854775808:Int)) (aD (isNeg A1.fst) fun r=>aD G1 fun s=>aD A1.snd fun t=>aD (isNeg A1.fst) fun u=>aD G1 fun v=>aD A1.snd fun w=>some [D.agg [sc (bool r),ints u64 s,sc (int i64 t),sc (bool u),ints u64 v,sc (int i64 w)],D.s (sc Q)]))) (aN (aU (h,i,j)) (aD T.fst fun x=>letI B1:=aQ x 0;letI H1:=M6.dg B1.fst.natAbs;letI H:=aQ (i64.wrap ((0:Int)-x)) 0;letI K1:=M6.dg H.fst.natAbs;aD T.snd.fst fun y=>aD T.snd.snd fun z=>aB z (aB (x==2) (some [D.agg [sc F1,sc Y,sc Q,sc F1,sc Y,sc Q],D.s (sc (int i64 6))]) (aB y (aN ((-9223372036854775808:Int)<=i64.wrap ((0:Int)-x)/\i64.wrap ((0:Int)-x)<9223372036854775808) (aD (isNeg H.fst) fun aa=>aD K1 fun ab=>aD H.snd fun ac=>aD (isNeg H.fst) fun ad=>aD K1 fun ae=>aD H.snd fun af=>some [D.agg [sc (bool aa),ints u64 ab,sc (int i64 ac),sc (bool ad),ints u64 ae,sc (int i64 af)],D.s (sc Q)])) (aN ((-9223372036854775808:Int)<=x/\x<9223372036854775808) (aD (isNeg B1.fst) fun ag=>aD H1 fun ah=>aD B1.snd fun ai=>aD (isNeg B1.fst) fun aj=>aD H1 fun ak=>aD B1.snd fun al=>some [D.agg [sc (bool ag),ints u64 ah,sc (int i64 ai),sc (bool aj),ints u64 ak,sc (int i64 al)],D.s (sc Q)])))) (aN (0<=b/\b<18446744073709551616) (aD (bif cT.jL 64 b then bC.uJ (bC.lM b)%4 else(0:Int)) fun am=>aD (isNeg G.fst) fun an=>aD (M6.dg G.fst.natAbs) fun ao=>aD G.snd fun ap=>letI A:=iT.Ez (dv (an,ao,ap)) X;letI P:=gC A.fst A.snd F;letI O:=gS A.fst A.snd F;aN (aU (an,ao,ap)/\(1<=i64.wrap (c+16)/\i64.wrap (c+16)<=66500)/\iT.aWB (dv (an,ao,ap)) X) (aD (isNeg O.fst.fst) fun aq=>aD (M6.dg O.fst.fst.natAbs) fun ar=>aD O.fst.snd fun au=>aD (isNeg O.snd.fst) fun av=>aD (M6.dg O.snd.fst.natAbs) fun aw=>aD O.snd.snd fun ax=>letI C1:=(aq,ar,au,av,aw,ax);aD (isNeg P.fst.fst) fun ay=>aD (M6.dg P.fst.fst.natAbs) fun az=>aD P.fst.snd fun ba=>aD (isNeg P.snd.fst) fun bb=>aD (M6.dg P.snd.fst.natAbs) fun bc=>aD P.snd.snd fun be=>letI D1:=(ay,az,ba,bb,bc,be);letI N:=VTurned.trn (mP.eS C1) (mP.eS D1) am.toNat;letI B:=mP.aWS a am.toNat (mP.eS C1) (mP.eS D1) X;aN ((fD C1/\fD D1)/\(0<=am/\am<=3)/\(1<=i64.wrap (c+16)/\i64.wrap (c+16)<=70000)/\(a≠4->a≠5->mP.aTP X N.fst N.snd)) (aD (isNeg B.fst.fst) fun bf=>aD (M6.dg B.fst.fst.natAbs) fun bg=>aD B.fst.snd fun bh=>aD (isNeg B.snd.fst) fun bi=>aD (M6.dg B.snd.fst.natAbs) fun bj=>aD B.snd.snd fun bk=>letI I:=(bf,bg,bh,bi,bj,bk);letI W:=M.shD true (dv (iP I)) K;letI U:=M.shD false (dv (iO I)) K;aN (fD I/\(1<=i64.wrap (c+20)/\i64.wrap (c+20)<=70000)/\yQ false (dv (iO I)) K=true/\yQ true (dv (iP I)) K=true) (aD (isNeg U.fst) fun bm=>aD (M6.dg U.fst.natAbs) fun bn=>aD U.snd fun bo=>aD (isNeg W.fst) fun bp=>aD (M6.dg W.fst.natAbs) fun bq=>aD W.snd fun br=>some [D.agg [sc (bool bm),ints u64 bn,sc (int i64 bo),sc (bool bp),ints u64 bq,sc (int i64 br)],D.s (sc Q)]))))))))):=cJ aT
def bBS(fn b:Int):Bool:=(cG.iW 64 b).1==0||(dO.vE fn (cG.iW 64 b)).2.2
def aXD(fn b:Int):Bool:=(cG.iW 64 b).1 !=0&&(dO.vE fn (cG.iW 64 b)).2.2&&(dO.vE fn (cG.iW 64 b)).1==2
def aWT(fn b p:Int):(Int×Int)×(Int×Int):=bif bBS fn b then(bif aXD fn b then((0,0),(0,0))else(aQ (He.bBY fn b) 0,aQ (He.bBY fn b) 0))else tO fn (bC.uJ (bC.lM b)) (bC.Dp (bC.lM b)) p
def sp(fn b p:Int):Prop×List D:=((0<=b/\b<18446744073709551616)/\(fn=4\/fn=5\/fn=6)/\(1<=p/\p<=66000)/\cT.jL 64 b=true,[wY (aWT fn b p).1 (aWT fn b p).2,.s (.sc (.int .i64 (bif aXD fn b then 6 else 0)))])
theorem fold(a b:Int×Int):(isNeg a.1,M6.dg a.1.natAbs,a.2,isNeg b.1,M6.dg b.1.natAbs,b.2)=nU a b:=rfl
theorem aNN{fn b:Int}(h:0<=b)(hf:cT.jL 64 b=true)(h4:fn=4\/fn=5\/fn=6)(hx:bBS fn b=false):bJD (bC.Dp (bC.lM b)):=by
 obtain⟨hp,hm,e0,e1⟩:=bC.aNK h hf;unfold bBS at hx;rw[show cG.iW 64 b=bC.lM b from rfl]at hx;generalize bC.lM b=q at *;have z0:q.1≠0:=fun hz=>by rw[hz]at hx;exact Bool.noConfusion hx
 have hv:(dO.vE fn q).2.2=false:=by
  cases hc:(dO.vE fn q).2.2 with
  |false=>rfl
  |true=>rw[hc,Bool.or_true]at hx;exact Bool.noConfusion hx
 have he:q.2<=-2:=by
  rcases Int.lt_or_le (-2) q.2 with kD |hle
  ·exfalso;unfold dO.vE at hv
   by_cases c0:0<=q.2
   ·rcases h4 with rfl |rfl |rfl <;> simp[c0]at hv
   ·have c1:q.2=-1:=by omega
    rcases h4 with rfl |rfl |rfl <;> simp[c1]at hv
  ·exact hle
 exact aZC ⟨e0,he⟩ (hp.2.2.2 z0)
theorem spec:bCR E f19 aE (pN .i64) (pN .u64) (pN .i64) sp:=by
 rintro fn b p ⟨h,h4,⟨Ao,wZ⟩,hf⟩;have hp:cR.fH 64 b=true:=rfl;have hk:wT.Bl fn=true:=by rcases h4 with rfl |rfl |rfl <;> rfl
 have e1:(bif cR.fH 64 b&&cT.jL 64 b then aQ (bI.lL 64 b) (bI.nA 64 b)else((0:Int),(0:Int)))=cG.iW 64 b:=by rw[hp,hf];rfl
 have e2:(bif cR.fH 64 b then bif cT.jL 64 b then(0:Int)else 6 else 2)=0:=by rw[hp,hf];rfl
 have s:=(start fn b p).trans (gP trivial);rw[hk,Bool.not_true,bF,aL,aL,iB,gP ⟨.inr rfl,h⟩,e1,e2,Dv,vl,gR rfl]at s;have aIO:=(cG.Nh (.inr rfl) h.1 hf).1;have hn:bBS fn b=false->bJD (bC.Dp (bC.lM b)):=aNN h.1 hf h4;have bGQ:cG.iW 64 b=bC.lM b:=rfl;unfold sp aWT;dsimp only;unfold bBS aXD He.bBY at *;generalize cG.iW 64 b=q at *;have hl:(M6.dg q.1.natAbs).length=0↔q.1=0:=by rw[M6.gJ];omega
 by_cases hz:q.1=0
 ·refine⟨_,s.trans ?_,iX.refl _⟩;rw[bJ (by have:=hl.2 hz;omega),if_pos hz,hz]
  by_cases h5:fn=5
  ·rw[bJ h5,if_pos h5,gP];rfl
  ·rw[bB h5,if_neg h5,gP];rfl
 ·rw[bB (fun h=>hz (hl.1 (by omega))),gP (dW aIO),dZ,vl,vl,vl]at s;rw[show(q.1==0)=false from beq_eq_false_iff_ne.2 hz,show(q.1 !=0)=true by simp[hz],cDQ,cER,if_neg hz];have hn:=fun hx=>hn (by rw[show(q.1==0)=false from beq_eq_false_iff_ne.2 hz,cDQ];exact hx)
  have hs:=cG.aGV fn q;cases hv:(dO.vE fn q).2.2 with
  |true =>
   rw[hv,bT]at s;rw[cond_true,cER]
   by_cases c2:(dO.vE fn q).1=2
   ·rw[bJ c2]at s;rw[c2];refine⟨_,s,.cons ?_ (iX.refl _)⟩;show Ap _ (wY (0,0) (0,0));unfold wY;dsimp only;rw[show(0:Int).natAbs=0 from rfl,M6.cD];exact Ap.agg (.cons (Fc.refl _) (.cons (Fc.nil _) (.cons (Fc.refl _) (.cons (Fc.refl _) (.cons (Fc.nil _) (Ab.refl _))))))
   ·rw[bB c2]at s;rw[show((dO.vE fn q).1==2)=false from beq_eq_false_iff_ne.2 c2];refine⟨_,s.trans ?_,iX.refl _⟩;cases hg:(dO.vE fn q).2.1 with
    |false=>rw[bF,if_neg (by simp),gP];rfl
    |true=>rw[bT,if_pos rfl,wrap_i64 (n:=0-(dO.vE fn q).1),Int.zero_sub,gP];rfl
  |false =>
   have hr:=hn hv;rw[hv,bF,gP h,hf]at s;rw[cond_false,cGY];dsimp only[cond_true]at s;have N:=aLQ (k:=bC.uJ (bC.lM b)) hr ⟨Ao,wZ⟩ h4;have w1:i64.wrap (p+16)=p+16:=wrap_i64;have w2:i64.wrap (p+20)=p+20:=wrap_i64;have bQF:p+16+2=p+18:=by omega
   have N2:=N.bx.Aw;generalize bC.uJ (bC.lM b)=k at *;generalize bC.Dp (bC.lM b)=r at *;rw[vl,Dv,w1,dZ,bQF]at s;have s:=s.trans (gP ⟨dW hr.xD,⟨by omega,by omega⟩,N.ci⟩);rw[show gS (iT.Ez r (p+16)).1 (iT.Ez r (p+16)).2 (p+18)=tS r p from rfl,show gC (iT.Ez r (p+16)).1 (iT.Ez r (p+16)).2 (p+18)=tC r p from rfl]at s;have eS:mP.eS (nU (tS r p).1 (tS r p).2)=tS r p:=by
    show(dv (iO (nU _ _)),dv (iP (nU _ _)))=_;rw[qF,qG]
   have eC:mP.eS (nU (tC r p).1 (tC r p).2)=tC r p:=by
    show(dv (iO (nU _ _)),dv (iP (nU _ _)))=_;rw[qF,qG]
   rw[aI,aI,aI,aI,aI,aI,aI,aI,aI,aI,aI,aI,fold,fold,eS,eC]at s;have s:=s.trans (gP ⟨⟨N.sS,N.sC⟩,⟨cKT _ (by decide),by omega⟩,⟨by omega,by omega⟩,fun _ _=>N.qu⟩);rw[show mP.aWS fn (k%4).toNat (tS r p) (tC r p) (p+16)=tE fn k r p from rfl,aI,aI,aI,aI,aI,aI,fold,w2,qF,qG]at s;have s:=s.trans (gP ⟨N.re,⟨by omega,by omega⟩,N.s1,N.s2⟩);exact⟨_,s,iX.refl _⟩
def aJ:dJ:=orc3 (pN .i64) (pN .u64) (pN .i64) sp
theorem ok:OK 19 aJ:=(dY E aE (aA wT.ok (aA bI.ok (aA aDW.ok (aA dO.ok (aA bC.ok (aA iT.ok (aA mP.ok (aA aRN.ok aC)))))))) func19).bLI rfl spec
end tZ
end W
namespace M
open Go AI W
structure bUL(s:(Int×Int)×(Int×Int))(V:Rat)(p:Int):Prop where
 f1:bUK s.1 66021 (-p-1200) 1
 f2:bUK s.2 66021 (-p-1200) 1
 lo:R.qz s.1<=V
 hi:V<=R.qz s.2
theorem bUL.sp{s:(Int×Int)×(Int×Int)}{V:Rat}{p:Int}(h:bUL s V p):fD (nU s.1 s.2):=by
 have:=h.lo;have:=h.hi;exact yW h.f1.xD h.f2.xD (mD.2 (by grind))
end M
namespace M
open Go AI W
theorem Nd{n:Int}(hn:0<=n):((p2 n:Int):Rat)=R.pz n:=by
 obtain⟨k,rfl⟩:=cGR hn;rw[zB,R.mI,cNB]
theorem Sb(p:Int×Int):((bC.uJ p:Int):Rat)<=2*R.qz p+1/2/\2*R.qz p+1/2<((bC.uJ p:Int):Rat)+1:=by
 obtain⟨m,e⟩:=p;have q:R.qz (m,e)=(m:Rat)*R.pz e:=rfl;rw[q];unfold bC.uJ;dsimp only
 by_cases h:0<=e
 ·rw[if_pos h,cNA,Nd (by omega),R.kF];constructor <;> grind
 ·rw[if_neg h];have D0:=Eo (1-e);have a1:=cKS (m*4+p2 (-e)) (p2 (1-e));have a2:=cKT (m*4+p2 (-e)) (show p2 (1-e)≠0 by omega);have a3:=cKU (m*4+p2 (-e)) D0;generalize (m*4+p2 (-e))/p2 (1-e)=K at *;have b1:p2 (1-e)*K<=m*4+p2 (-e):=by omega
  have b2:m*4+p2 (-e)+1<=p2 (1-e)*K+p2 (1-e):=by omega
  have c1:((p2 (1-e)*K:Int):Rat)<=((m*4+p2 (-e):Int):Rat):=by exact_mod_cast b1
  have c2:((m*4+p2 (-e)+1:Int):Rat)<=((p2 (1-e)*K+p2 (1-e):Int):Rat):=by exact_mod_cast b2
  rw[cNA,cOP,cNA,Nd (by omega),Nd (by omega)]at c1;rw[cOP,cOP,cOP,cNA,cNA,Nd (by omega),Nd (by omega)]at c2;have four:((4:Int):Rat)=4:=by norm_cast
  have one:((1:Int):Rat)=1:=by norm_cast
  have i1:R.pz (e-1)*R.pz (1-e)=1:=by rw[<-R.jQ,show e-1+(1-e)=0 by omega,R.fM]
  have i2:R.pz (e-1)*R.pz (-e)=1/2:=by
   rw[<-R.jQ,show e-1+-e=0-1 by omega];have:=R.oJ 0;rw[R.fM]at this;grind
  have i3:=R.oJ e;have z0:=R.dU (e-1);have m1:=R.aG (cGW z0) (show 0<=(m:Rat)*4+R.pz (-e)-R.pz (1-e)*(K:Rat) by grind);have m2:=R.aG (cGW z0) (show 0<=R.pz (1-e)*(K:Rat)+R.pz (1-e)-((m:Rat)*4+R.pz (-e)+1) by grind);have j1:R.pz (e-1)*((m:Rat)*4+R.pz (-e)-R.pz (1-e)*(K:Rat))=2*((m:Rat)*(R.pz (e-1)*2))+R.pz (e-1)*R.pz (-e)-R.pz (e-1)*R.pz (1-e)*(K:Rat):=by grind
  have j2:R.pz (e-1)*(R.pz (1-e)*(K:Rat)+R.pz (1-e)-((m:Rat)*4+R.pz (-e)+1))=R.pz (e-1)*R.pz (1-e)*(K:Rat)+R.pz (e-1)*R.pz (1-e)-2*((m:Rat)*(R.pz (e-1)*2))-R.pz (e-1)*R.pz (-e)-R.pz (e-1):=by grind
  rw[j1,i1,i2,show R.pz (e-1)*2=R.pz e by grind]at m1;rw[j2,i1,i2,show R.pz (e-1)*2=R.pz e by grind]at m2;generalize (m:Rat)*R.pz e=X at *;constructor <;> grind
theorem aFK(p:Int×Int):R.qz (bC.Dp p)=R.qz p-((bC.uJ p:Int):Rat)/2:=by
 obtain⟨m,e⟩:=p;have q:R.qz (m,e)=(m:Rat)*R.pz e:=rfl;have hD:bC.Dp (m,e)=aQ (bC.Qq (m,e)) (e-1):=rfl;rw[q,hD,pD];unfold bC.Qq;dsimp only;have i3:=R.oJ e
 by_cases h:0<=e
 ·have hK:bC.uJ (m,e)=m*p2 (e+1):=by unfold bC.uJ;rw[if_pos h]
  rw[if_pos h,hK,cNA,Nd (by omega),R.kF,show((0:Int):Rat)=0 by norm_cast];grind
 ·rw[if_neg h];generalize bC.uJ (m,e)=K;have i2:R.pz (e-1)*R.pz (-e)=1/2:=by
   rw[<-R.jQ,show e-1+-e=0-1 by omega];have:=R.oJ 0;rw[R.fM]at this;grind
  rw[cPV,cNA,cNA,Nd (by omega),show((2:Int):Rat)=2 by norm_cast];have j:((m:Rat)*2-(K:Rat)*R.pz (-e))*R.pz (e-1)=(m:Rat)*(R.pz (e-1)*2)-(K:Rat)*(R.pz (e-1)*R.pz (-e)):=by grind
  rw[j,i2,show R.pz (e-1)*2=R.pz e by grind];grind
end M
namespace M
open Go AI W
def vT(fn b:Int):Rat:=tv fn (bC.uJ (bC.lM b)) (R.sn (R.qz (bC.Dp (bC.lM b))*R.pi)) (R.cs (R.qz (bC.Dp (bC.lM b))*R.pi))
end M
namespace AI
open Go Go.RowKit
structure aJV(α:Type) where
 put:α->Value
 get:Value->Option α
 eq:∀{v x},get v=some x->v=put x
def vN(k:IntKind):aJV Int where
 put n:=.int k n
 get
  | .int k' n=>if _h:k=k' then some n else none
  |_=>none
 eq:=by
  intro v x h;split at h
  ·split at h
   ·rename_i hk;subst hk;cases h;rfl
   ·cases h
  ·cases h
def vF:aJV Nat where
 put g:=.func (.func g) #[] #[]
 get
  | .func (.func g) ⟨[]⟩ ⟨[]⟩=>some g
  |_=>none
 eq:=by
  intro v x h;split at h
  ·cases h;rfl
  ·cases h
def vC(id:FuncId):aJV Unit where
 put _:=.func (.func id) #[] #[]
 get
  | .func (.func g) ⟨[]⟩ ⟨[]⟩=>if g=id then some ()else none
  |_=>none
 eq:=by
  intro v x h;split at h
  ·split at h
   ·rename_i hg;subst hg;rfl
   ·cases h
  ·cases h
structure aRT(α:Type) where
 put:α->List Value
 get:List Value->Option α
 eq:∀{v x},get v=some x->v=put x
def l1{α:Type}(p:aJV α):aRT α where
 put a:=[p.put a]
 get
  | [v]=>p.get v
  |_=>none
 eq:=by
  intro v x h;split at h
  ·rw[p.eq h]
  ·cases h
def lc{α β:Type}(p:aJV α)(q:aRT β):aRT (α×β) where
 put a:=p.put a.1 :: q.put a.2
 get
  |v :: r=>match p.get v,q.get r with
   |some a,some b=>some (a,b)
   |_,_=>none
  |_=>none
 eq:=by
  intro v x h;split at h
  ·split at h
   ·rename_i h1 h2;cases h;rw[p.eq h1,q.eq h2]
   ·cases h
  ·cases h
def pPt{α:Type}(p:aJV α):mF α where
 put a:=.s (.pt (p.put a))
 get
  | .s (.pt v)=>p.get v
  |_=>none
 le:=by
  intro d x h;split at h
  ·rw[p.eq h];exact Ei.refl _
  ·cases h
def pClo{α:Type}(k:FuncId)(p:aRT α):mF α where
 put a:=.s (.Vt k (p.put a))
 get
  | .s (.Vt k' xs)=>if k=k' then p.get xs else none
  |_=>none
 le:=by
  intro d x h;split at h
  ·split at h
   ·rename_i hk;subst hk;rw[p.eq h];exact Ei.refl _
   ·cases h
  ·cases h
def bFB{α:Type}(k:FuncId)(p:aRT α):SPar α:=bJN (pClo k p) (fun a=>.Vt k (p.put a)) fun _=>rfl
theorem aTU{P:Program}{G:Nat->Option (IntKind×List Int)}{f:FuncId}{α β γ δ:Type}{p:mF α}{q:mF β}{r:mF γ}{s:mF δ}{sp:α->β->γ->δ->Prop×List D}(hb:rH P f)
  (h:∀a b c d,(sp a b c d).1->Contract P G f [p.put a,q.put b,r.put c,s.put d] (sp a b c d).2):mM P G f (orc4 p q r s sp):=by
 intro ds g rs ho hg;unfold orc4 at ho;split at ho
 ·split at ho
  ·rename_i h1 h2 h3 h4;have e:=Option.some.inj ho;have c:=(h _ _ _ _ (by rw[e];exact hg)).bRG (p.le h1) (q.le h2) (r.le h3) (s.le h4);rw[e]at c;exact⟨c,hb⟩
  ·cases ho
 ·cases ho
end AI
namespace W
open Go AI M
namespace eR
def E:=mE [(31,fB.aJ)] 22 [] [(4,[0,4,6,7])] [4]
def aE:=bd f73
theorem aT:Nk E aE:=nk
def J4 a b c d:=lK E f73 aE 4 [bP a,dR 1 42 [cF b],dR 2 129 [cF c,sc Value.nilFunc],dR 3 22 [oT d]]
theorem start a b c:aF E f73 aE [D.s (sc (int i64 a)),D.s (sc (int i64 b)),D.s (sc (int u64 c))]=aB (a==32) (aN (0<=c/\c<18446744073709551616) (eR.J4 a b 0 (fB.Mc c))) (eR.J4 a b 0 c):=eJ aT
theorem Eh a b c d:J4 a b c d=aB (decide (4<=b)) (some [D.agg [sc (int i64 a),S.Vt 126 [Value.func (Fn.func 19) { toList:=[] } { toList:=[] },int i64 b,int u64 d]]]) (some [D.agg [sc (int i64 a),S.Vt 126 [Value.func (Fn.func 125) { toList:=[] } { toList:=[] },int i64 b,int u64 d]]]):=cJ aT
def xV(f b:Int):Int:=if f=32 then fB.Mc b else b
def gV(fn:Int):Nat:=if 4<=fn then 19 else 125
def sp(f fn b:Int):Prop×List D:=(0<=b/\b<18446744073709551616,[.agg [.sc (.int .i64 f),.Vt 126 [.func (.func (gV fn)) #[] #[],.int .i64 fn,.int .u64 (xV f b)]]])
theorem spec:oG E f73 aE (pN .i64) (pN .i64) (pN .u64) sp:=by
 intro f fn b h;have hb:0<=b/\b<18446744073709551616:=h;have j:∀x1:Int,J4 f fn 0 x1=some [.agg [.sc (.int .i64 f),.Vt 126 [.func (.func (gV fn)) #[] #[],.int .i64 fn,.int .u64 x1]]]:=by
  intro x1;rw[Eh];unfold gV
  by_cases h4:4<=fn
  ·rw[aM h4,if_pos h4]
  ·rw[aL h4,if_neg h4]
 refine(start f fn b).trans ?_;unfold sp xV;dsimp only
 by_cases h1:f=32
 ·rw[bJ h1,if_pos h1,gP hb,j]
 ·rw[bB h1,if_neg h1,j]
def aJ:dJ:=orc3 (pN .i64) (pN .i64) (pN .u64) sp
theorem ok:OK 73 aJ:=(dY E aE (aA fB.ok aC) func73).xN rfl spec
end eR
namespace Dl
def E:=mE [(125,lG.aJ)] 14 [11] [] []
def aE:=bd f126
theorem aT:Nk E aE:=nk
theorem start p fn x:aF E f126 aE [D.s (sc (int i64 p)),D.s (S.pt (Value.func (Fn.func (125:FuncId)) #[] #[])),D.s (S.pt (int i64 fn)),D.s (S.pt (int u64 x))]=letI A:=lG.aVP fn x p;aN (0<=x/\x<18446744073709551616) (aD (isNeg A.fst.fst) fun a=>aD (M6.dg A.fst.fst.natAbs) fun b=>aD A.fst.snd fun c=>aD (isNeg A.snd.fst) fun d=>aD (M6.dg A.snd.fst.natAbs) fun e=>aD A.snd.snd fun f=>some [D.agg [sc (bool a),ints u64 b,sc (int i64 c),sc (bool d),ints u64 e,sc (int i64 f)],D.s (sc (int i64 (fL.Tr fn x p)))]):=eJ aT
def sp(p:Int)(_:Unit)(fn x:Int):Prop×List D:=(0<=x/\x<18446744073709551616,[wY (lG.aVP fn x p).1 (lG.aVP fn x p).2,.s (.sc (.int .i64 (fL.Tr fn x p)))])
theorem spec:Rp E f126 aE (pN .i64) (pPt (vC 125)) (pPt (vN .i64)) (pPt (vN .u64)) sp:=fun p u fn x h =>
 (start p fn x).trans (gP h)
def aJ:dJ:=orc4 (pN .i64) (pPt (vC 125)) (pPt (vN .i64)) (pPt (vN .u64)) sp
theorem ok:OK 126 aJ:=(dY E aE (aA lG.ok aC) func126).aSJ rfl spec
end Dl
namespace Dk
def E:=mE [(19,tZ.aJ)] 14 [11] [] []
def aE:=bd f126
theorem aT:Nk E aE:=nk
theorem start p fn x:aF E f126 aE [D.s (sc (int i64 p)),D.s (S.pt (Value.func (Fn.func (19:FuncId)) #[] #[])),D.s (S.pt (int i64 fn)),D.s (S.pt (int u64 x))]=letI A:=tZ.aWT fn x p;aN ((0<=x/\x<18446744073709551616)/\(fn=4\/fn=5\/fn=6)/\(1<=p/\p<=66000)/\cT.jL 64 x=true) (aD (isNeg A.fst.fst) fun a=>aD (M6.dg A.fst.fst.natAbs) fun b=>aD A.fst.snd fun c=>aD (isNeg A.snd.fst) fun d=>aD (M6.dg A.snd.fst.natAbs) fun e=>aD A.snd.snd fun f=>aD (bif tZ.aXD fn x then(6:Int)else(0:Int)) fun g=>some [D.agg [sc (bool a),ints u64 b,sc (int i64 c),sc (bool d),ints u64 e,sc (int i64 f)],D.s (sc (int i64 g))]):=eJ aT
def sp(p:Int)(_:Unit)(fn x:Int):Prop×List D:=((0<=x/\x<18446744073709551616)/\(fn=4\/fn=5\/fn=6)/\(1<=p/\p<=66000)/\cT.jL 64 x=true,[wY (tZ.aWT fn x p).1 (tZ.aWT fn x p).2,.s (.sc (.int .i64 (bif tZ.aXD fn x then 6 else 0)))])
theorem spec:Rp E f126 aE (pN .i64) (pPt (vC 19)) (pPt (vN .i64)) (pPt (vN .u64)) sp:=fun p u fn x h =>
 (start p fn x).trans (gP h)
def aJ:dJ:=orc4 (pN .i64) (pPt (vC 19)) (pPt (vN .i64)) (pPt (vN .u64)) sp
theorem ok:OK 126 aJ:=(dY E aE (aA tZ.ok aC) func126).aSJ rfl spec
end Dk
namespace kN
def enc(g:Nat)(fn x p:Int):(Int×Int)×(Int×Int):=if g=125 then lG.aVP fn x p else tZ.aWT fn x p
def pre(g:Nat)(fn x p:Int):Prop:=(g=125/\(0<=x/\x<18446744073709551616)/\fL.Tr fn x p=0)\/(g=19/\((0<=x/\x<18446744073709551616)/\(fn=4\/fn=5\/fn=6)/\(1<=p/\p<=66000)/\cT.jL 64 x=true)/\tZ.aXD fn x=false)
def sp(p:Int)(g:Nat)(fn x:Int):Prop×List D:=(pre g fn x p,[wY (enc g fn x p).1 (enc g fn x p).2,.s (.sc (.int .i64 0))])
def aJ:dJ:=orc4 (pN .i64) (pPt vF) (pPt (vN .i64)) (pPt (vN .u64)) sp
theorem ok:OK 126 aJ:=aTU (sT func126 rfl rfl) fun p g fn x h=>by
 rcases h with ⟨rfl,h,h0⟩ |⟨rfl,h,h0⟩
 ·have c:=(Dl.ok _ _ _ (show Dl.aJ [(pN .i64).put p,(pPt (vC 125)).put (),(pPt (vN .i64)).put fn,(pPt (vN .u64)).put x]=some (Dl.sp p () fn x)from rfl) h).1;have e:(Dl.sp p () fn x).2=(sp p 125 fn x).2:=by unfold Dl.sp sp enc;rw[h0];rfl
  rw[<-e];exact c
 ·have c:=(Dk.ok _ _ _ (show Dk.aJ [(pN .i64).put p,(pPt (vC 19)).put (),(pPt (vN .i64)).put fn,(pPt (vN .u64)).put x]=some (Dk.sp p () fn x)from rfl) h).1;have e:(Dk.sp p () fn x).2=(sp p 19 fn x).2:=by unfold Dk.sp sp enc;rw[h0];rfl
  rw[<-e];exact c
end kN
namespace lS
def E:=mE [(84,mK.aJ),(39,cG.aJ),(82,iD.aJ)] 56 [26,37,51] [] []
def aE:=bd f72
theorem aT:Nk E aE:=nk
theorem start a b c d:aF E f72 aE [D.s (sc (int i64 a)),D.s (sc (int i64 b)),D.s (sc (int u64 c)),D.s (sc (int i64 d))]=letI F:=cG.sU a b c;letI C:=aH.fF a;letI B:=sc (bool true);letI A:=aN True (some [D.s (sc (int u64 C.snd.snd.snd)),D.s B]);aB (d==4) A (aB (d==3) A (aB (decide (4<=b)) (aN (0<=c/\c<18446744073709551616) (some [D.s (sc (int u64 F.fst)),D.s (sc (bool F.snd.fst))])) (aB (d !=0) (some [D.s (sc (int u64 0)),D.s (sc (bool false))]) (aB (b==2) (aN ((a=32\/a=64)/\((0:Int)<=(1:Int)/\(1:Int)<(18446744073709551616:Int))/\(-4000:Int)<=(0:Int)/\(0:Int)<=(2900:Int)) (some [D.s (sc (int u64 (iD.Qn C false (iD.vD C 1 0)))),D.s B])) (some [D.s (sc (int u64 c)),D.s B]))))):=eJ aT
def Mp(f fn b c:Int):Int×Bool:=if c=4 then((aH.fF f).2.2.2,true)else if c=3 then((aH.fF f).2.2.2,true)else if 4<=fn then((cG.sU f fn b).1,(cG.sU f fn b).2.1)else if c=0 then(if fn=2 then(iD.Qn (aH.fF f) false (iD.vD (aH.fF f) 1 0),true)else(b,true))else(0,false)
def sp(f fn b c:Int):Prop×List D:=((f=32\/f=64)/\0<=b/\b<18446744073709551616,[.s (.sc (.int .u64 (Mp f fn b c).1)),.s (.sc (.bool (Mp f fn b c).2))])
theorem spec:Rp E f72 aE (pN .i64) (pN .i64) (pN .u64) (pN .i64) sp:=by
 rintro f fn b c ⟨hf,hb⟩;refine(start f fn b c).trans ?_;unfold sp Mp;dsimp only
 by_cases h4:c=4
 ·rw[bJ h4,if_pos h4,gP trivial]
 rw[bB h4,if_neg h4]
 by_cases h3:c=3
 ·rw[bJ h3,if_pos h3,gP trivial]
 rw[bB h3,if_neg h3]
 by_cases h5:4<=fn
 ·rw[aM h5,if_pos h5,gP hb]
 rw[aL h5,if_neg h5]
 by_cases h0:c=0
 ·rw[gR h0,if_pos h0]
  by_cases h2:fn=2
  ·rw[bJ h2,if_pos h2,gP ⟨hf,by omega,by omega,by omega⟩]
  ·rw[bB h2,if_neg h2]
 ·rw[oM h0,if_neg h0]
def aJ:dJ:=orc4 (pN .i64) (pN .i64) (pN .u64) (pN .i64) sp
theorem ok:OK 72 aJ:=(dY E aE (aA mK.ok (aA cG.ok (aA iD.ok aC))) func72).aSJ rfl spec
end lS
namespace pO
def E:=mE [(78,aH.aJ),(135,bR.aJ)] 36 [] [(6,[1,4,8])] [6]
def aE:=bd f77
theorem aT:Nk E aE:=nk
def J6 a b c d e f g h i:=lK E f77 aE 6 [dM a,dR 1 84 [cF b,cF c,cF d,oT e],dR 2 84 [cF f,cF g,cF h,oT i]]
theorem start a b:aF E f77 aE [D.s (sc (int i64 a)),D.s (sc (int u64 b))]=letI A:=aH.fF a;letI G:=int i64 A.snd.fst;letI F:=int u64 A.snd.snd.snd;letI C:=int i64 A.snd.snd.fst;letI B:=pO.J6 b 0 0 0 0 A.fst A.snd.fst A.snd.snd.fst A.snd.snd.snd;aN True (aB (A.fst==0&&(A.snd.fst==0&&(A.snd.snd.fst==0&&(A.snd.snd.snd==0&&true)))) (some [D.agg [sc (int i64 A.fst),sc G,sc C,sc F],D.s (sc (bool false)),D.s (sc (int u64 0)),D.s (sc (int i64 1))]) (aB (decide (A.fst<64)) (if A.fst<0 then none else aB (b/(↑((2:Nat)^min A.fst.toNat 64):Int) !=(0:Int)) (some [D.agg [sc (int i64 A.fst),sc G,sc C,sc F],D.s (sc (bool false)),D.s (sc (int u64 0)),D.s (sc (int i64 2))]) B) B)):=eJ aT
def Qy(f b:Int):Int:=bif mK.An f then(bif cR.fH f b then 0 else 2)else 1
def aZN(f b:Int):Bool:=mK.An f&&cR.fH f b
def sp(f b:Int):Prop×List D:=(0<=b/\b<18446744073709551616,[aH.bJM (aH.fF f),.s (.sc (.bool (aZN f b&&decide (bR.cC (aH.fF f)<=b)))),.s (.sc (.int .u64 (bif aZN f b then b%bR.cC (aH.fF f)else 0))),.s (.sc (.int .i64 (Qy f b)))])
theorem spec:fN E f77 aE (pN .i64) (pN .u64) sp:=by
 intro f b h;unfold sp aZN Qy
 by_cases hf:f=32\/f=64
 ·rw[show mK.An f=true from decide_eq_true hf,cER,cond_true];exact cR.spec f b ⟨hf,h⟩
 ·rw[show mK.An f=false from decide_eq_false hf,cGY,cond_false];refine(start f b).trans ((gP trivial).trans ?_);have e:aH.fF f=(0,0,0,0):=by unfold aH.fF;rw[if_neg (fun h=>hf (.inl h)),if_neg (fun h=>hf (.inr h))]
  rw[e];rfl
def aJ:dJ:=orc2 (pN .i64) (pN .u64) sp
theorem ok:OK 77 aJ:=(dY E aE (aA aH.ok (aA bR.ok aC)) func77).lD rfl spec
end pO
namespace jT
def E:=mE [(77,pO.aJ),(79,fO.aJ)] 24 [13,23] [] []
def aE:=bd f83
theorem aT:Nk E aE:=nk
theorem start a b:aF E f83 aE [D.s (sc (int i64 a)),D.s (sc (int u64 b))]=letI A:=aH.fF a;letI B:=(A.fst,A.snd.fst,A.snd.snd.fst,A.snd.snd.snd);aN (0<=b/\b<18446744073709551616) (aB (pO.Qy a b !=0) (some [D.s (sc (int i64 0)),D.s (sc (int i64 (pO.Qy a b)))]) (aN (aH.xC B) (some [D.s (sc (int i64 (fO.gO B (bif pO.aZN a b then b%bR.cC A else(0:Int))))),D.s (sc (int i64 0))]))):=eJ aT
def xS(f b:Int):Int:=bif pO.aZN f b then fO.gO (aH.fF f) (b%bR.cC (aH.fF f))else 0
def sp(f b:Int):Prop×List D:=(0<=b/\b<18446744073709551616,[.s (.sc (.int .i64 (xS f b))),.s (.sc (.int .i64 (pO.Qy f b)))])
theorem spec:fN E f83 aE (pN .i64) (pN .u64) sp:=by
 intro f b h;refine(start f b).trans ((gP h).trans ?_);unfold sp xS pO.Qy pO.aZN
 by_cases hf:f=32\/f=64
 ·rw[show mK.An f=true from decide_eq_true hf,cER,cond_true];have ht:=cT.Ft hf;cases hp:cR.fH f b with
  |false=>rfl
  |true =>
   try dsimp only[cond_true]
   rw[gR rfl,gP ht]
 ·rw[show mK.An f=false from decide_eq_false hf];rfl
def aJ:dJ:=orc2 (pN .i64) (pN .u64) sp
theorem ok:OK 83 aJ:=(dY E aE (aA pO.ok (aA fO.ok aC)) func83).lD rfl spec
end jT
namespace gB
def E:=mE [(83,jT.aJ)] 24 [13] [] []
def aE:=bd f71
theorem aT:Nk E aE:=nk
theorem start a b c:aF E f71 aE [D.s (sc (int i64 a)),D.s (sc (int i64 b)),D.s (sc (int u64 c))]=letI B:=sc (int i64 (jT.xS a c));letI A:=some [D.s B,D.s (sc (int i64 1))];aN (0<=c/\c<18446744073709551616) (aB (decide (b<1)) A (aB (decide (6<b)) A (some [D.s B,D.s (sc (int i64 (pO.Qy a c)))]))):=eJ aT
def qC(f fn b:Int):Int:=if fn<1 then 1 else if 6<fn then 1 else pO.Qy f b
def sp(f fn b:Int):Prop×List D:=(0<=b/\b<18446744073709551616,[.s (.sc (.int .i64 (jT.xS f b))),.s (.sc (.int .i64 (qC f fn b)))])
theorem spec:oG E f71 aE (pN .i64) (pN .i64) (pN .u64) sp:=by
 intro f fn b h;refine(start f fn b).trans ((gP h).trans ?_);unfold sp qC;dsimp only
 by_cases h1:fn<1
 ·rw[aM h1,if_pos h1]
 ·rw[aL h1,if_neg h1]
  by_cases h2:6<fn
  ·rw[aM h2,if_pos h2]
  ·rw[aL h2,if_neg h2]
def aJ:dJ:=orc3 (pN .i64) (pN .i64) (pN .u64) sp
theorem ok:OK 71 aJ:=(dY E aE (aA jT.ok aC) func71).xN rfl spec
end gB
end W
namespace W.Ziv
open Go AI M W W.aDY
structure Ns(f fn b:Int):Prop where
 fin:Fin f b
 f1:1<=fn
 f6:fn<=6
 ex:4<=fn->(dO.vE fn (cG.iW f b)).2.2=false
theorem Vs{f b:Int}(hf:f=32\/f=64)(hb:0<=b/\b<18446744073709551616)(hp:cR.fH f b=true):b<2*sg f/\jT.xS f b=(if b%sg f=0 then 0 else if b%sg f<cP.lA (aH.fF f)then 1 else if b%sg f<mJ.qB (Fm.Gc f)then 2 else if b%sg f=mJ.qB (Fm.Gc f)then 3 else 4):=by
 obtain⟨e1,e2⟩:=Ju hf;constructor
 ·unfold cR.fH at hp;rcases hf with rfl |rfl
  ·rw[Bool.or_eq_true,decide_eq_true_eq,decide_eq_true_eq]at hp;have:sg 32=2147483648:=rfl;omega
  ·have:sg 64=9223372036854775808:=rfl;omega
 ·unfold jT.xS pO.aZN;rw[show mK.An f=true from decide_eq_true hf,hp,cER,cond_true,e1];unfold fO.gO;rw[e2]
theorem Vk{f fn b:Int}(h:gB.qC f fn b=0):(f=32\/f=64)/\cR.fH f b=true/\1<=fn/\fn<=6:=by
 unfold gB.qC at h;split at h
 ·omega
 ·split at h
  ·omega
  ·unfold pO.Qy mK.An at h
   by_cases hf:f=32\/f=64
   ·rw[decide_eq_true hf,cond_true]at h;cases hp:cR.fH f b with
    |true=>exact⟨hf,rfl,by omega,by omega⟩
    |false=>rw[hp]at h;cases h
   ·rw[decide_eq_false hf]at h;cases h
theorem Yj{f fn b:Int}(hb:0<=b/\b<18446744073709551616)(he:gB.qC f fn b=0)(hs:(lS.Mp f fn b (jT.xS f b)).2=false):Ns f fn b:=by
 obtain⟨hf,hp,f1,f6⟩:=Vk he;obtain⟨Zf,hc⟩:=Vs hf hb hp;obtain⟨e1,e2⟩:=Ju hf;have h0:=cKT b (show sg f≠0 by unfold sg;split <;> omega);have hi:=(Xc.Uu hf).2.1;rw[e2]at hi;unfold lS.Mp at hs;generalize jT.xS f b=cl at hc hs
 by_cases c0:b%sg f=0
 ·rw[if_pos c0]at hc;rw[aP,aP]at hs
  by_cases c4:4<=fn
  ·rw[if_pos c4,Xc.Vj hf ⟨c4,f6⟩ hp (by rw[e1];exact c0)]at hs;cases hs
  ·rw[if_neg c4,if_pos hc]at hs;split at hs <;> cases hs
 ·rw[if_neg c0]at hc;have fin:b%sg f<mJ.qB (Fm.Gc f):=by
   apply Classical.byContradiction;intro hn;rw[aP,if_neg hn]at hc
   by_cases c3:b%sg f=mJ.qB (Fm.Gc f)
   ·rw[if_pos c3]at hc;rw[aP,if_pos hc]at hs;cases hs
   ·rw[if_neg c3]at hc;rw[if_pos hc]at hs;cases hs
  refine⟨⟨hf,⟨hb.1,Zf⟩,by omega,fin⟩,f1,f6,fun c4=>?_⟩;have ex:=Xc.aDA hf ⟨c4,f6⟩ hp (by rw[e1];omega) (by rw[e1,e2];exact fin);have bOW:cl=1\/cl=2:=by
   split at hc
   ·exact .inl hc
   ·first |exact .inr hc | (rw[if_pos fin]at hc;exact .inr hc)
  rw[aP,aP,if_pos c4,ex]at hs;cases hx:(dO.vE fn (cG.iW f b)).2.2 with
  |false=>rfl
  |true=>rw[hx,if_pos rfl]at hs;cases hs
theorem Tq{f b:Int}(h:Fin f b):Fin 64 (eR.xV f b)/\cG.iW 64 (eR.xV f b)=cG.iW f b:=by
 obtain⟨hf,hb,h1,h2⟩:=h;unfold eR.xV;rcases hf with rfl |rfl
 ·have Hn:sg 32=2147483648:=rfl;have i32:mJ.qB (Fm.Gc 32)=2139095040:=rfl;rw[Hn]at hb h1 h2;rw[i32]at h2;obtain⟨_,w1,w2,w3,w4,w5⟩:=Xc.aSV hb.1 (by omega) h1 h2;rw[if_pos rfl];exact⟨⟨.inr rfl,⟨w1,w2⟩,w3,w4⟩,w5⟩
 ·rw[if_neg (by decide)];exact⟨⟨.inr rfl,hb,h1,h2⟩,rfl⟩
def vZ(fn x:Int):Rat:=if 4<=fn then vT fn x else vx fn x
structure aKF(s:(Int×Int)×(Int×Int))(V:Rat)(p:Int):Prop where
 pl:kQ s.1
 ph:kQ s.2
 lo:R.qz s.1<=V
 hi:V<=R.qz s.2
 wd:R.qz s.2-R.qz s.1<=R.pz (-p-1)*R.ab V
 v0:V≠0
theorem aKF.Aw{s:(Int×Int)×(Int×Int)}{V:Rat}{p:Int}(h:aKF s V p):fD (nU s.1 s.2):=yW h.pl h.ph (mD.2 (by have:=h.lo;have:=h.hi;grind))
theorem aTQ{p:Int}(hp:1<=p):R.pz (-p-1)<=1/4:=by
 have h1:=R.cY (show -p-1<=-2 by omega);have h2:R.pz (-2)*4=1:=by
  have:=R.fU 0 (n:=2) (c:=4) (by norm_cast);rwa [R.fM]at this
 grind
theorem aKF.Xv{s:(Int×Int)×(Int×Int)}{V:Rat}{p:Int}(h:aKF s V p)(hp:1<=p):(0<V->0<R.qz s.1)/\(V<0->R.qz s.2<0):=by
 obtain⟨_,_,lo,hi,wd,v0⟩:=h;have q:=aTQ hp;have a0:=R.aO V;have m:=R.aG a0 (show 0<=1/4-R.pz (-p-1) by grind);have e:R.ab V*(1/4-R.pz (-p-1))=R.ab V/4-R.pz (-p-1)*R.ab V:=by grind
 rw[e]at m;generalize R.pz (-p-1)*R.ab V=W at *;constructor
 ·intro hV;rw[R.bS (cGW hV)]at m;grind
 ·intro hV;have:R.ab V=-V:=by unfold R.ab;rw[if_neg (by grind)]
  rw[this]at m;grind
theorem xG{f fn b p:Int}(h:Ns f fn b)(hp:1<=p/\p<=66000):kN.pre (eR.gV fn) fn (eR.xV f b) p/\aKF (kN.enc (eR.gV fn) fn (eR.xV f b) p) (vZ fn (eR.xV f b)) p:=by
 obtain⟨⟨_,hb,h1,h2⟩,bGQ⟩:=Tq h.fin;have ex:=h.ex;rw[<-bGQ]at ex;generalize eR.xV f b=x at *;have hx:0<=x/\x<18446744073709551616:=hb;have h1:0<x%9223372036854775808:=h1;have h2:x%9223372036854775808<9218868437227405312:=h2;have f1:=h.f1;have f6:=h.f6;unfold kN.pre kN.enc eR.gV vZ
 by_cases c4:4<=fn
 ·rw[if_pos c4,if_pos c4];have ex:=ex c4;have h4:fn=4\/fn=5\/fn=6:=by omega
  have hf:cT.jL 64 x=true:=decide_eq_true h2;have bGP:=Xc.Ul (f:=64) (.inr rfl) hx.1 h1;have xB:tZ.bBS fn x=false:=by
   unfold tZ.bBS;rw[ex,beq_eq_false_iff_ne.2 (show(cG.iW 64 x).1≠0 by omega)];rfl
  have pB:tZ.aXD fn x=false:=by unfold tZ.aXD;rw[ex,Bool.and_false,cGY]
  have N:=aLQ (k:=bC.uJ (bC.lM x)) (tZ.aNN hx.1 hf h4 xB) hp h4;rw[if_neg (by decide)];refine⟨.inr ⟨rfl,⟨hx,h4,hp,hf⟩,pB⟩,?_⟩;unfold tZ.aWT;rw[xB,cond_false];have m0:=N.bx.m0;have lo:=N.bx.lo;have hi:=N.bx.hi;exact⟨N.bx.pl,N.bx.ph,by unfold vT;grind,by unfold vT;grind,N.bx.wd,N.v0⟩
 ·rw[if_neg c4,if_neg c4,if_pos rfl];have c:fL.Tr fn x p=0:=by rw[aBN,aP,aP,aP,aP,if_pos h2]
  obtain⟨hr,hf,_,z⟩:=aFL hx c (by omega);refine⟨.inl ⟨rfl,hx,c⟩,?_⟩;rw[aPW c z];have N:=bBX (p:=p) hr hf hp;have m0:=N.bx.m0;have lo:=N.bx.lo;have hi:=N.bx.hi;have wd:=N.bx.wd;have pm:=R.cY (show -p-8<=-p-1 by omega);have mm:=R.aG (R.aO (R.fv fn (R.qz (aZ.qN x)) (kx x))) (show 0<=R.pz (-p-1)-R.pz (-p-8) by grind);exact⟨N.bx.pl,N.bx.ph,by unfold vx;grind,by unfold vx;grind,by unfold vx;grind,N.v0⟩
end W.Ziv
namespace R
theorem aMW(k:Int)(s c:Rat):rs (-k) (-s) c=-rs k s c:=by
 unfold rs;have h4:k%4=0\/k%4=1\/k%4=2\/k%4=3:=by omega
 rcases h4 with h |h |h |h
 ·rw[if_pos (show -k%4=0 by omega),if_pos h]
 ·rw[if_neg (show ¬-k%4=0 by omega),if_neg (show ¬-k%4=1 by omega),if_neg (show ¬-k%4=2 by omega),if_neg (show ¬k%4=0 by omega),if_pos h]
 ·rw[if_neg (show ¬-k%4=0 by omega),if_neg (show ¬-k%4=1 by omega),if_pos (show -k%4=2 by omega),if_neg (show ¬k%4=0 by omega),if_neg (show ¬k%4=1 by omega),if_pos h]
 ·rw[if_neg (show ¬-k%4=0 by omega),if_pos (show -k%4=1 by omega),if_neg (show ¬k%4=0 by omega),if_neg (show ¬k%4=1 by omega),if_neg (show ¬k%4=2 by omega)];grind
theorem aMY(k:Int)(s c:Rat):rc (-k) (-s) c=rc k s c:=by
 unfold rc;have h4:k%4=0\/k%4=1\/k%4=2\/k%4=3:=by omega
 rcases h4 with h |h |h |h
 ·rw[if_pos (show -k%4=0 by omega),if_pos h]
 ·rw[if_neg (show ¬-k%4=0 by omega),if_neg (show ¬-k%4=1 by omega),if_neg (show ¬-k%4=2 by omega),if_neg (show ¬k%4=0 by omega),if_pos h]
 ·rw[if_neg (show ¬-k%4=0 by omega),if_neg (show ¬-k%4=1 by omega),if_pos (show -k%4=2 by omega),if_neg (show ¬k%4=0 by omega),if_neg (show ¬k%4=1 by omega),if_pos h]
 ·rw[if_neg (show ¬-k%4=0 by omega),if_pos (show -k%4=1 by omega),if_neg (show ¬k%4=0 by omega),if_neg (show ¬k%4=1 by omega),if_neg (show ¬k%4=2 by omega)];grind
theorem Uj(x:Rat)(k:Int):-x-((-k:Int):Rat)*(pi/2)=-(x-(k:Rat)*(pi/2)):=by
 rw[cOO];grind
theorem bCS(x:Rat)(k:Int):Sf (-x) (-k)=-Sf x k:=by
 unfold Sf;rw[Uj,xK,Ew,aMW]
theorem bDM(x:Rat)(k:Int):Cf (-x) (-k)=Cf x k:=by
 unfold Cf;rw[Uj,xK,Ew,aMY]
theorem bBO(fn:Int)(x:Rat)(k:Int):fv fn (-x) (-k)=if fn=2 then fv fn x k else -fv fn x k:=by
 unfold fv;rw[bCS,bDM]
 by_cases f1:fn=1
 ·rw[if_pos f1,aP,if_pos f1]
 ·rw[if_neg f1,if_neg f1]
  by_cases f2:fn=2
  ·rw[if_pos f2,if_pos f2,if_pos f2]
  ·rw[if_neg f2,if_neg f2,if_neg f2,cQT,cQT,Rat.neg_mul]
end R
namespace AI
open Go Go.RowKit
abbrev O0:Nat->Prop:=fun _=>False
theorem Nr{w w':World}(h:Below w.heap.size w w'):iQ O0 w O0 w':=⟨h.size,fun b hb _=>⟨h.block b hb,id⟩⟩
theorem wQ{G:Nat->Option (IntKind×List Int)}{w w':World}(h:GlobOk G O0 w)(hb:Below w.heap.size w w'):GlobOk G O0 w':=fun g k ns e=>by
 obtain⟨h1,_,h3⟩:=h g k ns e;exact⟨cCM h1 hb.size,id,h3.later (Nr hb)⟩
theorem Pe{Y:Nat->Prop}{w:World}:iQ Y w O0 w:=⟨cBP _,fun _ _ _=>⟨rfl,id⟩⟩
theorem aIZ{G:Nat->Option (IntKind×List Int)}{Y:Nat->Prop}{w:World}(h:GlobOk G Y w):GlobOk G O0 w:=fun g k ns e=>by
 obtain⟨h1,_,h3⟩:=h g k ns e;exact⟨h1,id,h3.later Pe⟩
theorem Pa{P:Program}{G:Nat->Option (IntKind×List Int)}{f:FuncId}{o:dJ}(h:mM P G f o){ds rs:List D}{g:Prop}(e:o ds=some (g,rs))(hg:g){w:World}(hG:GlobOk G O0 w){vs:List Value}(hl:ds.length=vs.length)
  (hd:∀(i:Nat) (d:D) (v:Value),ds[i]?=some d->vs[i]?=some v->mW O0 w d v) :
  Calls P f vs.toArray w fun e w'=>∃vK,e=.returned (resV vK)/\Below w.heap.size w w'/\Wl O0 w.heap.size w' rs vK :=
 (h ds g rs e hg).1 O0 w vs (fun _ hb=>hb.elim) hG hl hd
def Qd(v:Value):D:=.s (.sc v)
theorem Oz{P:Program}{G:Nat->Option (IntKind×List Int)}{f:FuncId}{o:dJ}(h:mM P G f o){xs ys:List Value}{g:Prop}(e:o (xs.map Qd)=some (g,ys.map Qd))(hg:g){w:World}(hG:GlobOk G O0 w)(hx:∀x∈xs,x.oneCell'=true) :
  Calls P f xs.toArray w fun e w'=>e=.returned (resV ys)/\Below w.heap.size w w':=by
 refine(Pa h e hg hG (vs:=xs) (by simp) (fun i d v hd hv=>?_)).mono ?_
 ·simp only[List.getElem?_map,Option.map_eq_some_iff]at hd;obtain⟨x,aUO,rfl⟩:=hd;rw[hv]at aUO;cases aUO;exact⟨rfl,hx v (List.mem_of_getElem? hv)⟩
 ·rintro e w' ⟨vK,rfl,hb,g,aOS,-,aKT⟩;refine⟨?_,hb⟩;congr 2;apply cFO;intro i;have aOS:ys.length=vK.length:=by simpa using aOS
  cases hi:vK[i]? with
  |none =>
   have:vK.length<=i:=List.getElem?_eq_none_iff.1 hi;exact(List.getElem?_eq_none_iff.2 (by omega)).symm
  |some v =>
   have kD:i<ys.length:=by rw[aOS];exact(List.getElem?_eq_some_iff.1 hi).1
   have hy:ys[i]?=some ys[i]:=cCG kD;have:=aKT i (Qd ys[i]) v (by simp[hy]) hi;rw[hy,this.1]
structure Pn(w:World)(n1:Bool)(l1:List Int)(e1:Int)(n2:Bool)(l2:List Int)(e2:Int)(s1 s2:Value):Prop where
 a:pM O0 w (.ints .u64 l1) s1
 b:pM O0 w (.ints .u64 l2) s2
theorem Pn.later{w w':World}{n1 n2:Bool}{l1 l2:List Int}{e1 e2:Int}{s1 s2:Value}(h:Pn w n1 l1 e1 n2 l2 e2 s1 s2)(hb:Below w.heap.size w w'):Pn w' n1 l1 e1 n2 l2 e2 s1 s2 :=
 ⟨h.a.later (Nr hb),h.b.later (Nr hb)⟩
theorem Pn.rep{w:World}{n1 n2:Bool}{l1 l2:List Int}{e1 e2:Int}{s1 s2:Value}(h:Pn w n1 l1 e1 n2 l2 e2 s1 s2):mW O0 w (.agg [.sc (.bool n1),.ints .u64 l1,.sc (.int .i64 e1),.sc (.bool n2),.ints .u64 l2,.sc (.int .i64 e2)]) (.agg #[.bool n1,s1,.int .i64 e1,.bool n2,s2,.int .i64 e2]):=by
 refine⟨_,rfl,rfl,fun i s u hs hu=>?_⟩
 match i with
 |0=>cases hs;cases hu;exact⟨rfl,rfl⟩
 |1=>cases hs;cases hu;exact h.a
 |2=>cases hs;cases hu;exact⟨rfl,rfl⟩
 |3=>cases hs;cases hu;exact⟨rfl,rfl⟩
 |4=>cases hs;cases hu;exact h.b
 |5=>cases hs;cases hu;exact⟨rfl,rfl⟩
 |i+6=>simp at hs
theorem Zu{P:Program}{G:Nat->Option (IntKind×List Int)}{f:FuncId}{xs ys:List Value}{rs:List D}(h:∀w,GlobOk G O0 w->Calls P f xs.toArray w fun e w'=>e=.returned (resV ys)/\Below w.heap.size w w')(hl:rs.length=ys.length)
  (hr:∀(i:Nat) (d:D) (v:Value),rs[i]?=some d->ys[i]?=some v->lE d=false/\∀(Y:Nat->Prop) (w:World),mW Y w d v):Contract P G f (xs.map Qd) rs:=by
 intro Y w vs hY hG hlen bFY;have e:vs=xs:=by
  apply cFO;intro i;have hlen:xs.length=vs.length:=by simpa using hlen
  cases hi:vs[i]? with
  |none =>
   have:vs.length<=i:=List.getElem?_eq_none_iff.1 hi;exact(List.getElem?_eq_none_iff.2 (by omega)).symm
  |some v =>
   have kD:i<xs.length:=by rw[hlen];exact(List.getElem?_eq_some_iff.1 hi).1
   have hx:xs[i]?=some xs[i]:=cCG kD;have:=bFY i (Qd xs[i]) v (by simp[hx]) hi;rw[hx,this.1]
 subst e;refine(h w (aIZ hG)).mono ?_;rintro e w' ⟨rfl,hb⟩;refine⟨ys,rfl,hb,fun _=>0,hl,fun i j d d' hd _ ho=>?_,fun i d v hd hv=>?_⟩
 ·obtain⟨v,hv⟩:=bG (l:=ys) (i:=i) (by have:=aX hd;omega);rw[(hr i d v hd hv).1]at ho;cases ho
 ·obtain⟨h1,h2⟩:=hr i d v hd hv;cases d with
  |own=>cases h1
  |_=>exact h2 _ _
theorem bQK{Y:Nat->Prop}{w:World}{x y z:Value}(hx:x.oneCell'=true)(hy:y.oneCell'=true)(hz:z.oneCell'=true):mW Y w (.agg [.sc x,.sc y,.sc z]) (.agg #[x,y,z]):=by
 refine⟨_,rfl,rfl,fun i s u hs hu=>?_⟩
 match i with
 |0=>cases hs;cases hu;exact⟨rfl,hx⟩
 |1=>cases hs;cases hu;exact⟨rfl,hy⟩
 |2=>cases hs;cases hu;exact⟨rfl,hz⟩
 |i+3=>simp at hs
theorem aTT{P:Program}{G:Nat->Option (IntKind×List Int)}{f:FuncId}{α β γ δ ε:Type}{p:mF α}{q:mF β}{r:mF γ}{s:mF δ}{t:mF ε}{sp:α->β->γ->δ->ε->Prop×List D}(hb:rH P f)
  (h:∀a b c d e,(sp a b c d e).1->Contract P G f [p.put a,q.put b,r.put c,s.put d,t.put e] (sp a b c d e).2):mM P G f (orc5 p q r s t sp):=by
 intro ds g rs ho hg;unfold orc5 at ho;split at ho
 ·rename_i a1 a2 a3 a4 a5;split at ho
  ·rename_i h1 h2 h3 h4 h5;have e:=Option.some.inj ho;have c:=(h _ _ _ _ _ (by rw[e];exact hg)).of (ds:=[a1,a2,a3,a4,a5]) rfl (fun i d d' hd Eb Y w v hr=>by
    match i with
    |0=>cases hd;cases Eb;exact p.le h1 Y w v hr
    |1=>cases hd;cases Eb;exact q.le h2 Y w v hr
    |2=>cases hd;cases Eb;exact r.le h3 Y w v hr
    |3=>cases hd;cases Eb;exact s.le h4 Y w v hr
    |4=>cases hd;cases Eb;exact t.le h5 Y w v hr
    |i+5=>simp at hd)
   rw[e]at c;exact⟨c,hb⟩
  ·cases ho
 ·cases ho
end AI
namespace W
open Go AI M
namespace jZ
def E:=mE [] 16 [] [] []
def aE:=bd f75
theorem aT:Nk E aE:=nk
theorem start a b:aF E f75 aE [D.s (sc (int i64 a)),D.s (sc (int i64 b))]=letI A:=some [D.s (sc (bool false))];aB (decide (1<=a)) (aB (decide (a<=b)) (some [D.s (sc (bool (decide (b<=66000))))]) A) A:=eJ aT
def Ik(a b:Int):Bool:=decide (1<=a/\a<=b/\b<=66000)
def sp(a b:Int):Prop×List D:=(True,[.s (.sc (.bool (Ik a b)))])
theorem spec:fN E f75 aE (pN .i64) (pN .i64) sp:=by
 intro a b h;refine(start a b).trans ?_;unfold sp Ik;dsimp only
 by_cases h1:1<=a
 ·rw[aM h1]
  by_cases h2:a<=b
  ·rw[aM h2]
   by_cases h3:b<=66000
   ·rw[decide_eq_true h3,decide_eq_true ⟨h1,h2,h3⟩]
   ·rw[decide_eq_false h3,decide_eq_false (by omega)]
  ·rw[aL h2,decide_eq_false (by omega)]
 ·rw[aL h1,decide_eq_false (by omega)]
def aJ:dJ:=orc2 (pN .i64) (pN .i64) sp
theorem ok:OK 75 aJ:=(dY E aE aC func75).lD rfl spec
end jZ
namespace pY
def E:=mE [(52,Fm.aJ),(67,wV.aJ),(15,jJ.aJ)] 40 [26] [] []
def aE:=bd f127
theorem aT:Nk E aE:=nk
theorem start a b c d e f g:aF E f127 aE [D.s (sc (int i64 a)),D.agg [sc (bool b),ints u64 c,sc (int i64 d),sc (bool e),ints u64 f,sc (int i64 g)]]=letI A:=Fm.Gc a;aN True (aD A.snd.fst fun h=>aD A.snd.snd fun i=>aB (A.fst==0&&(h==0&&(i==0&&true))) (some [D.s (sc (int u64 0)),D.s (sc (bool false)),D.s (sc (int i64 1))]) (aN (fD (b,c,d,e,f,g)) (aN ((a=32\/a=64)/\aU (b,c,d)) (aD (jJ.kG a (dv (b,c,d))) fun j=>aN ((a=32\/a=64)/\aU (e,f,g)) (aD (jJ.kG a (dv (e,f,g))) fun k=>aB (j !=k) (some [D.s (sc (int u64 0)),D.s (sc (bool false)),D.s (sc (int i64 0))]) (some [D.s (sc (int u64 j)),D.s (sc (bool true)),D.s (sc (int i64 0))])))))):=eJ aT
def aKZ(f:Int)(s:(Int×Int)×(Int×Int)):Int×Bool:=if jJ.kG f s.1=jJ.kG f s.2 then(jJ.kG f s.1,true)else(0,false)
def sp(f:Int)(s:yM):Prop×List D:=((f=32\/f=64)/\fD s,[.s (.sc (.int .u64 (aKZ f (dv (iO s),dv (iP s))).1)),.s (.sc (.bool (aKZ f (dv (iO s),dv (iP s))).2)),.s (.sc (.int .i64 0))])
theorem spec:fN E f127 aE (pN .i64) Ae sp:=by
 rintro f s ⟨hf,hs⟩;refine(start f s.1 s.2.1 s.2.2.1 s.2.2.2.1 s.2.2.2.2.1 s.2.2.2.2.2).trans ?_;have h0:((Fm.Gc f).1==0)=false:=by rcases hf with rfl |rfl <;> rfl
 rw[gP trivial,aI,aI,h0,cGY,bF,gP hs,gP ⟨hf,hs.1⟩,aI,gP ⟨hf,hs.2.1⟩,aI];unfold sp aKZ;dsimp only;show aB (jJ.kG f (dv (iO s)) !=jJ.kG f (dv (iP s))) _ _=_
 by_cases c:jJ.kG f (dv (iO s))=jJ.kG f (dv (iP s))
 ·rw[if_pos c,gR c];rfl
 ·rw[if_neg c,oM c]
def aJ:dJ:=orc2 (pN .i64) Ae sp
theorem ok:OK 127 aJ:=(dY E aE (aA Fm.ok (aA wV.ok (aA jJ.ok aC))) func127).lD rfl spec
end pY
namespace Ak
def E:=mE [(126,kN.aJ),(127,pY.aJ)] 33 [23] [] []
def aE:=bd f74
theorem aT:Nk E aE:=nk
theorem start f g fn x p:aF E f74 aE [D.agg [sc (int i64 f),S.Vt (126:FuncId) [Value.func (Fn.func g) #[] #[],int i64 fn,int u64 x]],D.s (sc (int i64 p))]=letI A:=kN.enc g fn x p;aN (kN.pre g fn x p) (aD (isNeg A.fst.fst) fun a=>aD (M6.dg A.fst.fst.natAbs) fun b=>aD A.fst.snd fun c=>aD (isNeg A.snd.fst) fun d=>aD (M6.dg A.snd.fst.natAbs) fun e=>aD A.snd.snd fun h=>letI C:=(a,b,c,d,e,h);letI B:=pY.aKZ f (dv (iO C),dv (iP C));aN ((f=32\/f=64)/\fD C) (aD B.fst fun i=>aD B.snd fun j=>aB j (some [D.s (sc (int u64 i)),D.s (sc (bool true))]) (some [D.s (sc (int u64 i)),D.s (sc (bool false))]))):=eJ aT
def dec(f:Int)(g:Nat)(fn x p:Int):Int×Bool:=pY.aKZ f (kN.enc g fn x p)
def sp(q:Int×Nat×Int×Int)(p:Int):Prop×List D:=(kN.pre q.2.1 q.2.2.1 q.2.2.2 p/\(q.1=32\/q.1=64)/\fD (nU (kN.enc q.2.1 q.2.2.1 q.2.2.2 p).1 (kN.enc q.2.1 q.2.2.1 q.2.2.2 p).2),[.s (.sc (.int .u64 (dec q.1 q.2.1 q.2.2.1 q.2.2.2 p).1)),.s (.sc (.bool (dec q.1 q.2.1 q.2.2.1 q.2.2.2 p).2))])
theorem fold(a b:Int×Int):(isNeg a.1,M6.dg a.1.natAbs,a.2,isNeg b.1,M6.dg b.1.natAbs,b.2)=nU a b:=rfl
theorem spec:fN E f74 aE (pG (.pair (sN .i64) (bFB 126 (lc vF (lc (vN .i64) (l1 (vN .u64))))))) (pN .i64) sp:=by
 intro q p h;obtain⟨f,g,fn,x⟩:=q;obtain⟨h1,h2,h3⟩:=h;refine(start f g fn x p).trans ?_;have h1:kN.pre g fn x p:=h1;unfold sp dec;dsimp only at *;rw[gP h1,aI,aI,aI,aI,aI,aI,fold,gP ⟨h2,h3⟩,qF,qG,aI,aI];show aB (pY.aKZ f (kN.enc g fn x p)).2 _ _=_;cases (pY.aKZ f (kN.enc g fn x p)).2 <;> rfl
def aJ:dJ:=orc2 (pG (.pair (sN .i64) (bFB 126 (lc vF (lc (vN .i64) (l1 (vN .u64))))))) (pN .i64) sp
theorem ok:OK 74 aJ:=(dY E aE (aA kN.ok (aA pY.ok aC)) func74).lD rfl spec
end Ak
namespace dC
def E:=mE [(71,gB.aJ),(72,lS.aJ),(73,eR.aJ),(74,Ak.aJ)] 54 [21,38,49] [(4,[0,1,2,3,11,12])] [4]
def aE:=bd f27
theorem aT:Nk E aE:=nk
def J4 a b c d e f:=lK E f27 aE 4 [bP a,bP b,dM c,bP d,bP e,bP f]
theorem start a b c d:aF E f27 aE [D.s (sc (int i64 a)),D.s (sc (int i64 b)),D.s (sc (int u64 c)),D.s (sc (int i64 d))]=letI A:=dC.J4 a b c d (jT.xS a c) 1;aN (0<=c/\c<18446744073709551616) (aB (decide (d<1)) A (aB (decide (66000<d)) A (dC.J4 a b c d (jT.xS a c) (gB.qC a b c)))):=eJ aT
theorem Eh a b c d e f:J4 a b c d e f=letI F:=lS.Mp a b c e;letI A:=(a,eR.gV b,b,eR.xV a c);letI C:=kN.enc A.snd.fst A.snd.snd.fst A.snd.snd.snd d;letI B:=Ak.dec A.fst A.snd.fst A.snd.snd.fst A.snd.snd.snd d;aB (f !=0) (some [D.s (sc (int u64 0)),D.s (sc (bool false)),D.s (sc (int i64 f))]) (aN ((a=32\/a=64)/\0<=c/\c<18446744073709551616) (aD F.fst fun g=>aD F.snd fun h=>aB h (some [D.s (sc (int u64 g)),D.s (sc (bool true)),D.s (sc (int i64 0))]) (aN (0<=c/\c<18446744073709551616) (aN (kN.pre (eR.gV b) b (eR.xV a c) d/\(a=32\/a=64)/\fD (nU C.fst C.snd)) (aD B.fst fun i=>aD B.snd fun j=>some [D.s (sc (int u64 i)),D.s (sc (bool j)),D.s (sc (int i64 0))]))))):=cJ aT
def zL(f fn b p:Int):Int×Bool:=Ak.dec f (eR.gV fn) fn (eR.xV f b) p
def aVO(f fn b p:Int):Int:=if 1<=p/\p<=66000 then gB.qC f fn b else 1
def Ki(f fn b:Int):Int×Bool:=lS.Mp f fn b (jT.xS f b)
def aJS(f fn b p:Int):Int×Bool:=if aVO f fn b p≠0 then(0,false)else bif (Ki f fn b).2 then((Ki f fn b).1,true)else zL f fn b p
def sp(f fn b p:Int):Prop×List D:=(0<=b/\b<18446744073709551616,[.s (.sc (.int .u64 (aJS f fn b p).1)),.s (.sc (.bool (aJS f fn b p).2)),.s (.sc (.int .i64 (aVO f fn b p)))])
theorem spec:Rp E f27 aE (pN .i64) (pN .i64) (pN .u64) (pN .i64) sp:=by
 intro f fn b p h;have hb:0<=b/\b<18446744073709551616:=h;refine(start f fn b p).trans ((gP hb).trans ?_);have j1:∀e:Int,e≠0->J4 f fn b p (jT.xS f b) e=some [.s (.sc (.int .u64 0)),.s (.sc (.bool false)),.s (.sc (.int .i64 e))]:=fun e he=>by rw[Eh,oM he]
 unfold sp aJS aVO;dsimp only
 by_cases hp:1<=p/\p<=66000
 ·rw[aL,aL,if_pos hp]
  by_cases he:gB.qC f fn b=0
  ·obtain⟨hf,_⟩:=Ziv.Vk he;rw[aP,Eh,he,gR rfl,gP ⟨hf,hb⟩,aI,aI];unfold Ki;cases hs:(lS.Mp f fn b (jT.xS f b)).2 with
   |true=>rfl
   |false =>
    obtain⟨h1,h2⟩:=Ziv.xG (Ziv.Yj hb he hs) hp;rw[bF,gP hb,gP ⟨h1,hf,h2.Aw⟩,aI,aI];rfl
  ·rw[j1 _ he,if_pos he]
 ·rw[if_neg hp,aR]
  by_cases Ao:p<1
  ·rw[aM Ao,j1 _ (by decide)]
  ·rw[aL Ao,aM,j1 _ (by decide)]
def aJ:dJ:=orc4 (pN .i64) (pN .i64) (pN .u64) (pN .i64) sp
theorem ok:OK 27 aJ:=(dY E aE (aA gB.ok (aA lS.ok (aA eR.ok (aA Ak.ok aC)))) func27).aSJ rfl spec
end dC
namespace IvLadder
open Go.RowKit Go.Shelf
attribute [local go_sem] Oper.semAt_some
def rungsF:Nat->Int->Int->List Int
 |0,_,_=>[]
 |n+1,p,l=>if p<=l then p :: rungsF n (p*2) l else []
abbrev aAQ:={ x:Int // 1<=x/\x<=66000 }
theorem Jv{k:Nat}{p l:Int}(h:p<=l):rungsF (k+1) p l=p :: rungsF k (p*2) l:=by
 rw[rungsF,if_pos h]
set_option maxRecDepth 100000 in
set_option maxHeartbeats 2000000 in
theorem make (w:World) (a b:Int):Calls prog 70 #[.int .i64 a,.int .i64 b] w fun e w'=>e=.returned (.func (.func 124) #[] #[.pointer (some ⟨w.heap.size,0,none⟩),.pointer (some ⟨w.heap.size+1,0,none⟩)])/\w'=(w.alloc (.cells #[.int .i64 a] 3)).alloc (.cells #[.int .i64 b] 3):=by
 refine(callsIn_wide (n:=1)).1 ?_;refine callsIn_of_wp func70 rfl trivial ?_ rfl;simp only[Tryz.ntmps70,cDF,cFA,cFB,cQO,cQP,Array.replicate_succ,Array.replicate_zero,cQQ,cQR,cFS,cDI]
 gi_wp2
 go_ret
 exact⟨by simp,rfl⟩
set_option maxRecDepth 100000 in
set_option maxHeartbeats 4000000 in
theorem each (F:Fence) (n:Nat) (hF:F.fn 124) (bTM:F.fn 75) (bNI:F.round=none) (hn:1<=n) (l B n₀:Nat) (a b:Int) (ha:1<=a/\a<=66000) (hb:b<=66000) (aYB:a<=b)
  (W:World) (aCR:∀w',Below W.heap.size W w'->CallsIn F (n-1) prog 75 #[.int .i64 a,.int .i64 b] w' fun e w2=>e=.returned (.bool true)/\Below w'.heap.size w' w2) (J Jx:List aAQ->World->Prop)
  (hJ:∀pre W',J pre W->Below W.heap.size W W'->J pre W')
  (hY:∀pre x W,J pre W->pre.length<17->YieldAt F (n-1) prog l #[.int .i64 x.1] W fun e W' =>
   (e=.returned (.bool true)/\J (pre ++ [x]) W'/\Below n₀ W W')\/(e=.returned (.bool false)/\Jx (pre ++ [x]) W'))
  (hB:B+1<n₀) (Dr:n₀<=W.heap.size) (h1:W.cell? ⟨B,0,none⟩=some (.int .i64 a)) (h2:W.cell? ⟨B+1,0,none⟩=some (.int .i64 b)) (h0:J [] W) :
  CallsIn F n prog 124 #[.func (.yield l) #[] #[],.pointer (some ⟨B,0,none⟩),.pointer (some ⟨B+1,0,none⟩)] W fun e W'=>(∃v,e=.returned v) /\
   ((∃ys:List aAQ,ys.map (·.1)=rungsF 17 a b/\J ys W')\/(∃pre:List aAQ,pre.map (·.1) <+: rungsF 17 a b/\Jx pre W')):=by
 refine callsIn_of_wp func124 rfl hF ?_ bNI;simp only[Tryz.ntmps124,cDF,cFA,cFB,cQO,cQP,Array.replicate_succ,Array.replicate_zero,cQQ,cQR,cFS,cDI]
 gi_wp2_with (gi_at_call 75;refine(aCR _ (Below.refl _ _)).mono ?_;rintro e w1 ⟨rfl,xP⟩;have c1:w1.cell? ⟨B,0,none⟩=some (.int .i64 a):=(xP.cell (p:=⟨B,0,none⟩) (show B<_ by omega)).trans h1;have c2:w1.cell? ⟨B+1,0,none⟩=some (.int .i64 b):=(xP.cell (p:=⟨B+1,0,none⟩) (show B+1<_ by omega)).trans h2)
 gi_loopw [4] (fun v wr=>∃(k:Nat) (pre:List aAQ) (p:Int),v=.int .i64 p/\(1<=p/\p<=132000)/\rungsF 17 a b=pre.map (·.1) ++ rungsF k p b/\pre.length+k=17/\b<p*2^k/\J pre wr/\Below n₀ W wr)
  (fun v _=>(b+1-intOf v).toNat)
 case atStart=>exact⟨17,[],a,rfl,⟨ha.1,by omega⟩,rfl,rfl,(by show b<a*131072;omega),hJ _ _ h0 xP,xP.mono Dr⟩
 case round =>
  obtain⟨k,pre,p,rfl,hp,hr,hk,bAQ,bTK,aKW⟩:=hrel;have c3:wr.cell? ⟨B+1,0,none⟩=some (.int .i64 b):=(aKW.cell (p:=⟨B+1,0,none⟩) (show B+1<_ by omega)).trans h2
  by_cases hle:p<=b
  ·obtain⟨fn,tmps,assign,body,hy,hR⟩:=hY pre ⟨p,hp.1,by omega⟩ wr bTK (by
    cases k with
    |zero=>simp at bAQ;omega
    |succ k=>omega)
   obtain⟨k,rfl⟩:∃j,k=j+1:=by
    cases k with
    |zero=>simp at bAQ;omega
    |succ k=>exact⟨k,rfl⟩
   rw[Jv hle]at hr
   gi_wp2
   refine hR.mono ?_;rintro e W3 (⟨rfl,cAC,bYA⟩ |⟨rfl,bPL⟩)
   ·gi_wp2
    go_roundw
    case rel =>
     exact⟨k,pre ++ [⟨p,hp.1,by omega⟩],p*2,rfl,⟨by omega,by omega⟩,by simp[hr],by simp;omega,by rw[Int.pow_succ]at bAQ;rw[cIC,Int.mul_comm 2];exact bAQ,cAC,aKW.trans bYA⟩
    case measure=>simp[intOf];omega
   ·gi_wp2
    refine bodyPost_ret (results_none rfl _ _ _) rfl ?_;exact⟨⟨_,rfl⟩,.inr ⟨pre ++ [⟨p,hp.1,by omega⟩],⟨rungsF k (p*2) b,by simp[hr]⟩,bPL⟩⟩
  ·have k3:rungsF k p b=[]:=by cases k with
    |zero=>rfl
    |succ k=>unfold rungsF;rw[if_neg hle]
   rw[k3,List.append_nil]at hr
   gi_wp2
   go_end0
   exact⟨⟨_,rfl⟩,.inl ⟨pre,rfl,bTK⟩⟩
theorem stops(F:Fence)(n:Nat)(hF:F.fn 124)(bTM:F.fn 75)(bNI:F.round=none)(hn:1<=n)(B n₀:Nat)(a b:Int)(ha:1<=a/\a<=66000)(hb:b<=66000)(aYB:a<=b)(w:World)
  (aCR:∀w',Below w.heap.size w w'->CallsIn F (n-1) prog 75 #[.int .i64 a,.int .i64 b] w' fun e w2=>e=.returned (.bool true)/\Below w'.heap.size w' w2) (hB:B+1<n₀) (Dr:n₀<=w.heap.size) (h1:w.cell? ⟨B,0,none⟩=some (.int .i64 a)) (h2:w.cell? ⟨B+1,0,none⟩=some (.int .i64 b)) :
  SeqStopsK F n prog 124 #[.pointer (some ⟨B,0,none⟩),.pointer (some ⟨B+1,0,none⟩)] (fun x:aAQ=>#[Value.int .i64 x.1]) (Below n₀) (fun ys=>ys.map (·.1)=rungsF 17 a b) (fun pre=>pre.map (·.1) <+: rungsF 17 a b) 17 w:=fun l J Jx W hW hJ _ hY h0 =>
 each F n hF bTM bNI hn l B n₀ a b ha hb aYB W (fun w2 bJU=>aCR w2 (hW.trans (bJU.mono hW.size))) J Jx (fun pre W' hp Qk=>hJ pre _ _ none hp ⟨Qk.os,Qk.tape,Qk.output,Qk.size,fun k hk _=>Qk.block k hk⟩ (fun r e=>by cases e)) hY hB (cCL Dr hW.size)
  ((hW.cell (p:=⟨B,0,none⟩) (show B<_ by omega)).trans h1) ((hW.cell (p:=⟨B+1,0,none⟩) (show B+1<_ by omega)).trans h2) h0
end IvLadder
namespace IvClimb
open Go.RowKit Go.Shelf
attribute [local go_sem] Oper.semAt_some
theorem one{W:World}{B:Nat}{v:Value}{t:TypeId}(h:W.heap[B]?=some (.cells #[v] t (0,0))):W.cell? ⟨B,0,none⟩=some v/\W.frozen? ⟨B,0,none⟩=false:=by
 constructor <;> simp[World.cell?,World.frozen?,h]
theorem three{W:World}{B:Nat}{u v x:Value}{t:TypeId}(h:W.heap[B]?=some (.cells #[u,v,x] t (0,0))):W.cell? ⟨B,0,none⟩=some u/\W.cell? ⟨B,1,none⟩=some v/\W.cell? ⟨B,2,none⟩=some x/\W.frozen? ⟨B,0,none⟩=false/\W.frozen? ⟨B,1,none⟩=false/\W.frozen? ⟨B,2,none⟩=false:=by
 refine⟨?_,?_,?_,?_,?_,?_⟩ <;> simp[World.cell?,World.frozen?,h]
theorem bMI(n:Nat){f fn b E:Int}(hb:0<=b/\b<18446744073709551616)(he:gB.qC f fn b=E){w:World}(hG:GlobOk base.glob O0 w):∀w',Below w.heap.size w w'->CallsIn Fence.wide n prog 71 #[.int .i64 f,.int .i64 fn,.int .u64 b] w' fun e w2=>e=.returned (.tuple #[.int .i64 (jT.xS f b),.int .i64 E])/\Below w'.heap.size w' w2:=fun w' tR =>
 callsIn_wide.2 (by have c:=Oz gB.ok (xs:=[.int .i64 f,.int .i64 fn,.int .u64 b]) (ys:=[.int .i64 (jT.xS f b),.int .i64 (gB.qC f fn b)]) rfl hb (wQ hG tR) (by simp[Value.oneCell']);rw[he]at c;exact c)
theorem bMH(n:Nat){s l:Int}{B:Bool}(hl:jZ.Ik s l=B){w:World}(hG:GlobOk base.glob O0 w):∀w',Below w.heap.size w w'->CallsIn Fence.wide n prog 75 #[.int .i64 s,.int .i64 l] w' fun e w2=>e=.returned (.bool B)/\Below w'.heap.size w' w2:=fun w' tR =>
 callsIn_wide.2 (by have c:=Oz jZ.ok (xs:=[.int .i64 s,.int .i64 l]) (ys:=[.bool (jZ.Ik s l)]) rfl trivial (wQ hG tR) (by simp[Value.oneCell']);rw[hl]at c;exact c)
theorem bRP(n:Nat){f fn b:Int}{B:Bool}(hb:0<=b/\b<18446744073709551616)(he:gB.qC f fn b=0)(hs:(dC.Ki f fn b).2=B){w:World}(hG:GlobOk base.glob O0 w):∀w',Below w.heap.size w w'->CallsIn Fence.wide n prog 72 #[.int .i64 f,.int .i64 fn,.int .u64 b,.int .i64 (jT.xS f b)] w' fun e w2=>e=.returned (.tuple #[.int .u64 (dC.Ki f fn b).1,.bool B])/\Below w'.heap.size w' w2:=fun w' tR =>
 callsIn_wide.2 (by have c:=Oz lS.ok (xs:=[.int .i64 f,.int .i64 fn,.int .u64 b,.int .i64 (jT.xS f b)]) (ys:=[.int .u64 (dC.Ki f fn b).1,.bool (dC.Ki f fn b).2]) rfl ⟨(Ziv.Vk he).1,hb⟩ (wQ hG tR) (by simp[Value.oneCell']);rw[hs]at c;exact c)
theorem opened(w:World):∃W2,(w.alloc (.cells #[.int .u64 0,.bool false,.int .i64 0] 62)).alloc (.cells #[.int .i64 0] 30)=W2/\Below w.heap.size w W2/\W2.heap.size=w.heap.size+2/\W2.heap[w.heap.size]?=some (.cells #[.int .u64 0,.bool false,.int .i64 0] 62 (0,0))/\W2.heap[w.heap.size+1]?=some (.cells #[.int .i64 0] 30 (0,0)):=by
 refine⟨_,rfl,((Below.refl _ w).alloc (cBP _) _).alloc (by simp) _,by simp,(Below.heap_alloc _ _ _ (by simp)).trans (World.alloc_heap_new w _),?_⟩;have:=World.alloc_heap_new (w.alloc (.cells #[.int .u64 0,.bool false,.int .i64 0] 62)) (.cells #[.int .i64 0] 30);simpa using this
set_option maxRecDepth 100000 in
set_option maxHeartbeats 4000000 in
theorem bad (f fn b s l:Int) (hb:0<=b/\b<18446744073709551616) (he:(if jZ.Ik s l then gB.qC f fn b else 1)≠0) {w:World} (hG:GlobOk base.glob O0 w):Calls prog 28 #[.int .i64 f,.int .i64 fn,.int .u64 b,.int .i64 s,.int .i64 l] w fun e w'=>e=.returned (.tuple #[.agg #[.int .u64 0,.bool false,.int .i64 0],.int .i64 (if jZ.Ik s l then gB.qC f fn b else 1)])/\Below w.heap.size w w':=by
 refine(callsIn_wide (n:=1)).1 ?_;refine callsIn_of_wp func28 rfl trivial ?_ rfl;simp only[Tryz.ntmps28,cDF,cFA,cFB,cQO,cQP,Array.replicate_succ,Array.replicate_zero,cQQ,cQR,cFS,cDI];have bEI:=bMI 0 (f:=f) (fn:=fn) hb rfl hG;have bBJ:=bMH 0 (s:=s) (l:=l) rfl hG;obtain⟨W2,bKU,aGQ,z2,r1,r2⟩:=opened w;cases hl:jZ.Ik s l with
 |true =>
  rw[hl,if_pos rfl]at he;rw[if_pos rfl];have Bp:(gB.qC f fn b==0)=false:=beq_eq_false_iff_ne.2 he
  gi_wp2_with (refine⟨trivial,?_⟩;first | (gi_at_call 71;refine(bEI _ aGQ).mono ?_;rintro e w3 ⟨rfl,Ds⟩;have aPG:Below w.heap.size w w3:=aGQ.trans (Ds.mono (by omega))) | (gi_at_call 75;refine(bBJ _ aPG).mono ?_;rintro e w4 ⟨rfl,Ze⟩;have bMN:=Ds.size;have aVF:Below w.heap.size w w4:=aPG.trans (Ze.mono (by omega));obtain⟨c1,c2,c3,k1,k2,k3⟩:=three (((Ze.block _ (by omega)).trans (Ds.block _ (by omega))).trans r1);obtain⟨c4,k4⟩:=one (((Ze.block _ (by omega)).trans (Ds.block _ (by omega))).trans r2)))
  refine⟨rfl,.tuple #[.agg #[.int .u64 0,.bool false,.int .i64 0],.int .i64 (gB.qC f fn b)],by simp[results,f28,go_sem,c1,c2,c3,c4],rfl,?_⟩;refine((((aVF.setCell ?_ _).setCell ?_ _).setCell ?_ _).setCell ?_ _) <;> first |exact cBP _ |exact cOR _
 |false =>
  rw[if_neg (by decide)]
  gi_wp2_with (refine⟨trivial,?_⟩;first | (gi_at_call 71;refine(bEI _ aGQ).mono ?_;rintro e w3 ⟨rfl,Ds⟩;have aPG:Below w.heap.size w w3:=aGQ.trans (Ds.mono (by omega))) | (gi_at_call 75;refine(bBJ _ aPG).mono ?_;rintro e w4 ⟨rfl,Ze⟩;have bMN:=Ds.size;have aVF:Below w.heap.size w w4:=aPG.trans (Ze.mono (by omega));obtain⟨c1,c2,c3,k1,k2,k3⟩:=three (((Ze.block _ (by omega)).trans (Ds.block _ (by omega))).trans r1);obtain⟨c4,k4⟩:=one (((Ze.block _ (by omega)).trans (Ds.block _ (by omega))).trans r2)))
  refine⟨rfl,.tuple #[.agg #[.int .u64 0,.bool false,.int .i64 0],.int .i64 1],by simp[results,f28,go_sem,c1,c2,c3,c4],rfl,?_⟩;refine((((aVF.setCell ?_ _).setCell ?_ _).setCell ?_ _).setCell ?_ _) <;> first |exact cBP _ |exact cOR _
abbrev ptr(b o:Nat):Value:=.pointer (some ⟨b,o,none⟩)
structure aSS(fn x:Int)(g b1 o1 b2 o2 b3 o3:Nat)(W:World):Prop where
 c1:W.cell? ⟨b1,o1,none⟩=some (.func (.func g) #[] #[])
 c2:W.cell? ⟨b2,o2,none⟩=some (.int .i64 fn)
 c3:W.cell? ⟨b3,o3,none⟩=some (.int .u64 x)
theorem Yp{W:World}{b o:Nat}{v:Value}(h:W.cell? ⟨b,o,none⟩=some v):b<W.heap.size:=by
 obtain⟨ob,h1,_⟩:=cells_of_cell h;exact(Array.getElem?_eq_some_iff.1 h1).1
theorem aSS.rep{fn x:Int}{g b1 o1 b2 o2 b3 o3:Nat}{W:World}(h:aSS fn x g b1 o1 b2 o2 b3 o3 W):pM O0 W (.Vt 126 [.func (.func g) #[] #[],.int .i64 fn,.int .u64 x]) (.func (.func 126) #[] #[ptr b1 o1,ptr b2 o2,ptr b3 o3]):=by
 refine⟨[ptr b1 o1,ptr b2 o2,ptr b3 o3],rfl,rfl,fun i x p hx hp=>?_⟩
 match i with
 |0=>cases hx;cases hp;exact⟨rfl,b1,o1,rfl,Yp h.c1,id,h.c1⟩
 |1=>cases hx;cases hp;exact⟨rfl,b2,o2,rfl,Yp h.c2,id,h.c2⟩
 |2=>cases hx;cases hp;exact⟨rfl,b3,o3,rfl,Yp h.c3,id,h.c3⟩
 |i+3=>simp at hx
theorem bFF(f fn b:Int)(hb:0<=b/\b<18446744073709551616){w:World}(hG:GlobOk base.glob O0 w):Calls prog 73 #[.int .i64 f,.int .i64 fn,.int .u64 b] w fun e w'=>∃b1 o1 b2 o2 b3 o3,e=.returned (.agg #[.int .i64 f,.func (.func 126) #[] #[ptr b1 o1,ptr b2 o2,ptr b3 o3]])/\Below w.heap.size w w'/\aSS fn (eR.xV f b) (eR.gV fn) b1 o1 b2 o2 b3 o3 w':=by
 refine(Pa eR.ok (ds:=[Qd (.int .i64 f),Qd (.int .i64 fn),Qd (.int .u64 b)]) (vs:=[.int .i64 f,.int .i64 fn,.int .u64 b]) rfl hb hG rfl (fun i d v hd hv=>?_)).mono ?_
 ·match i with
  |0=>cases hd;cases hv;exact⟨rfl,rfl⟩
  |1=>cases hd;cases hv;exact⟨rfl,rfl⟩
  |2=>cases hd;cases hv;exact⟨rfl,rfl⟩
  |i+3=>simp at hd
 ·rintro e w' ⟨vK,rfl,Qk,g,aOS,-,aKT⟩
  match vK,aOS with
  | [v],_ =>
   have a1:mW _ w' (.agg [.sc (.int .i64 f),.Vt 126 [.func (.func (eR.gV fn)) #[] #[],.int .i64 fn,.int .u64 (eR.xV f b)]]) v:=aKT 0 _ v rfl rfl;obtain⟨arr,rfl,hl,hc⟩:=a1.later Pe;obtain⟨q1,q2,he⟩:∃q1 q2,arr.toList=[q1,q2]:=by
    match hh:arr.toList,hl with
    | [q1,q2],_=>exact⟨q1,q2,rfl⟩
   rw[he]at hc;have h0:=(hc 0 _ _ rfl rfl).1;obtain⟨ps,hv,Sn,Il⟩:=hc 1 _ _ rfl rfl
   match ps,Sn with
   | [p1,p2,p3],_ =>
    obtain⟨_,b1,o1,rfl,_,_,k1⟩:=Il 0 _ _ rfl rfl;obtain⟨_,b2,o2,rfl,_,_,k2⟩:=Il 1 _ _ rfl rfl;obtain⟨_,b3,o3,rfl,_,_,k3⟩:=Il 2 _ _ rfl rfl;refine⟨b1,o1,b2,o2,b3,o3,?_,Qk,k1,k2,k3⟩;have:arr=#[q1,q2]:=by rw[<-he]
    rw[this,h0,hv];rfl
theorem aVV(f fn x p:Int){g b1 o1 b2 o2 b3 o3:Nat}{w:World}(h:aSS fn x g b1 o1 b2 o2 b3 o3 w)(hp:(Ak.sp (f,g,fn,x) p).1)(hG:GlobOk base.glob O0 w):Calls prog 74 #[.agg #[.int .i64 f,.func (.func 126) #[] #[ptr b1 o1,ptr b2 o2,ptr b3 o3]],.int .i64 p] w fun e w'=>e=.returned (.tuple #[.int .u64 (Ak.dec f g fn x p).1,.bool (Ak.dec f g fn x p).2])/\Below w.heap.size w w':=by
 refine(Pa Ak.ok (ds:=[.agg [.sc (.int .i64 f),.Vt 126 [.func (.func g) #[] #[],.int .i64 fn,.int .u64 x]],Qd (.int .i64 p)]) (vs:=[.agg #[.int .i64 f,.func (.func 126) #[] #[ptr b1 o1,ptr b2 o2,ptr b3 o3]],.int .i64 p]) rfl hp hG rfl (fun i d v hd hv=>?_)).mono ?_
 ·match i with
  |0 =>
   cases hd;cases hv;refine⟨_,rfl,rfl,fun j s u hs hu=>?_⟩
   match j with
   |0=>cases hs;cases hu;exact⟨rfl,rfl⟩
   |1=>cases hs;cases hu;exact h.rep
   |j+2=>simp at hs
  |1=>cases hd;cases hv;exact⟨rfl,rfl⟩
  |i+2=>simp at hd
 ·rintro e w' ⟨vK,rfl,Qk,g',aOS,-,aKT⟩
  match vK,aOS with
  | [v1,v2],_ =>
   have a1:=aKT 0 _ v1 rfl rfl;have a2:=aKT 1 _ v2 rfl rfl;rw[a1.1,a2.1];exact⟨rfl,Qk⟩
set_option maxRecDepth 100000 in
set_option maxHeartbeats 4000000 in
theorem aTE (f fn b s l:Int) (hb:0<=b/\b<18446744073709551616) (hl:jZ.Ik s l=true) (he:gB.qC f fn b=0) (hs:(dC.Ki f fn b).2=true) {w:World} (hG:GlobOk base.glob O0 w):Calls prog 28 #[.int .i64 f,.int .i64 fn,.int .u64 b,.int .i64 s,.int .i64 l] w fun e w'=>e=.returned (.tuple #[.agg #[.int .u64 (dC.Ki f fn b).1,.bool true,.int .i64 0],.int .i64 0])/\Below w.heap.size w w':=by
 refine(callsIn_wide (n:=1)).1 ?_;refine callsIn_of_wp func28 rfl trivial ?_ rfl;simp only[Tryz.ntmps28,cDF,cFA,cFB,cQO,cQP,Array.replicate_succ,Array.replicate_zero,cQQ,cQR,cFS,cDI];have bEI:=bMI 0 hb he hG;have bBJ:=bMH 0 hl hG;have bPR:=bRP 0 hb he hs hG;obtain⟨W2,bKU,aGQ,z2,r1,r2⟩:=opened w
 gi_wp2_with (refine⟨trivial,?_⟩;first
  | (gi_at_call 71;refine(bEI _ aGQ).mono ?_;rintro e w3 ⟨rfl,Ds⟩;have bWI:=Ds.size;have aPG:Below w.heap.size w w3:=aGQ.trans (Ds.mono (by omega)))
  | (gi_at_call 75;refine(bBJ _ aPG).mono ?_;rintro e w4 ⟨rfl,Ze⟩;have bMN:=Ze.size;have aVF:Below w.heap.size w w4:=aPG.trans (Ze.mono (by omega)))
  | (gi_at_call 72;refine(bPR _ aVF).mono ?_;rintro e w5 ⟨rfl,aVC⟩;have bWH:=aVC.size;have bLB:Below w.heap.size w w5:=aVF.trans (aVC.mono (by omega));obtain⟨c1,c2,c3,k1,k2,k3⟩:=three ((((aVC.block _ (by omega)).trans (Ze.block _ (by omega))).trans (Ds.block _ (by omega))).trans r1);obtain⟨c4,k4⟩:=one ((((aVC.block _ (by omega)).trans (Ze.block _ (by omega))).trans (Ds.block _ (by omega))).trans r2)))
 refine⟨rfl,.tuple #[.agg #[.int .u64 (dC.Ki f fn b).1,.bool true,.int .i64 0],.int .i64 0],by simp[results,f28,go_sem,c1,c2,c3,c4],rfl,?_⟩;refine((((bLB.setCell ?_ _).setCell ?_ _).setCell ?_ _).setCell ?_ _) <;> first |exact cBP _ |exact cOR _
def first(f fn b:Int):List Int->Option Int
 | []=>none
 |r :: rs=>bif (dC.zL f fn b r).2 then some r else first f fn b rs
def Rn(f fn b s l:Int):Int×Bool×Int:=match first f fn b (IvLadder.rungsF 17 s l)with
 |some r=>((dC.zL f fn b r).1,true,r)
 |none=>(0,false,0)
theorem Oo{f fn b:Int}:∀{rs:List Int},(∀r∈rs,(dC.zL f fn b r).2=false)->first f fn b rs=none
 | [],_=>rfl
 |r :: rs,h=>by unfold first;rw[h r (by simp),cond_false];exact Oo fun r hr=>h r (by simp[hr])
theorem Om{f fn b r:Int}:∀{pre rs:List Int},(∀r∈pre,(dC.zL f fn b r).2=false)->(dC.zL f fn b r).2=true->first f fn b (pre ++ r :: rs)=some r
 | [],rs,_,h=>by show first f fn b (r :: rs)=_;unfold first;rw[h,cond_true]
 |p :: pre,rs,hp,h=>by
  show first f fn b (p :: (pre ++ r :: rs))=_
  unfold first
  rw[hp p (by simp),cond_false];exact Om (fun r hr=>hp r (by simp[hr])) h
structure aBI(n0:Nat)(x y z e:Value)(W:World):Prop where
 c1:W.cell? ⟨n0,0,none⟩=some x
 c2:W.cell? ⟨n0,1,none⟩=some y
 c3:W.cell? ⟨n0,2,none⟩=some z
 c4:W.cell? ⟨n0+1,0,none⟩=some e
 k1:W.frozen? ⟨n0,0,none⟩=false
 k2:W.frozen? ⟨n0,1,none⟩=false
 k3:W.frozen? ⟨n0,2,none⟩=false
 k4:W.frozen? ⟨n0+1,0,none⟩=false
theorem aBI.kept{n0:Nat}{x y z e:Value}{W W':World}{row:Option Nat}(h:aBI n0 x y z e W)(hg:W.grownBy W' row)(hr:∀r,row=some r->∃o:Obj,W.heap[r]?=some o/\o.isCells=false):aBI n0 x y z e W' :=
 ⟨cell_kept h.c1 hg hr,cell_kept h.c2 hg hr,cell_kept h.c3 hg hr,cell_kept h.c4 hg hr,(frozen_kept h.c1 hg hr).trans h.k1,(frozen_kept h.c2 hg hr).trans h.k2,(frozen_kept h.c3 hg hr).trans h.k3,(frozen_kept h.c4 hg hr).trans h.k4⟩
theorem aBI.below{n0:Nat}{x y z e:Value}{W W':World}(h:aBI n0 x y z e W)(hb:Below W.heap.size W W'):aBI n0 x y z e W':=h.kept (row:=none) ⟨hb.os,hb.tape,hb.output,hb.size,fun k hk _=>hb.block k hk⟩ (fun r e=>by cases e)
theorem aKL(W:World)(a c:Addr)(v:Value)(h:a≠c):(W.setCell a v).cell? c=W.cell? c:=by
 first |exact World.cell?_setCell_other W a v c h |exact World.cell?_setCell_other W a c v h
theorem aBI.put{n0:Nat}{x y z e:Value}{W:World}(h:aBI n0 x y z e W)(x' y' z' e':Value):aBI n0 x' y' z' e' ((((W.setCell ⟨n0,0,none⟩ x').setCell ⟨n0,1,none⟩ y').setCell ⟨n0,2,none⟩ z').setCell ⟨n0+1,0,none⟩ e'):=by
 obtain⟨c1,c2,c3,c4,k1,k2,k3,k4⟩:=h;refine⟨?_,?_,?_,?_,by simp[k1],by simp[k2],by simp[k3],by simp[k4]⟩
 ·rw[aKL _ _ _ _ (by simp),aKL _ _ _ _ (by simp),aKL _ _ _ _ (by simp)];exact World.cell?_setCell_same' _ _ _ (by rw[c1];rfl)
 ·rw[aKL _ _ _ _ (by simp),aKL _ _ _ _ (by simp)];exact World.cell?_setCell_same' _ _ _ (by rw[aKL _ _ _ _ (by simp),c2];rfl)
 ·rw[aKL _ _ _ _ (by simp)];exact World.cell?_setCell_same' _ _ _ (by rw[aKL _ _ _ _ (by simp),aKL _ _ _ _ (by simp),c3];rfl)
 ·exact World.cell?_setCell_same' _ _ _ (by rw[aKL _ _ _ _ (by simp),aKL _ _ _ _ (by simp),aKL _ _ _ _ (by simp),c4];rfl)
theorem aBI.out{n0:Nat}{x y z e:Value}{W:World}(h:aBI n0 x y z e W)(tmps:Array Value)(h1:tmps[10]?=some (.pointer (some ⟨n0,0,none⟩)))(h2:tmps[11]?=some (.pointer (some ⟨n0+1,0,none⟩))):(results f28 tmps).run prog W=.ok (.tuple #[.agg #[x,y,z],e]) W:=by
 obtain⟨c1,c2,c3,c4,_⟩:=h;simp[results,f28,go_sem,c1,c2,c3,c4,Array.getD_eq_getD_getElem?,h1,h2]
theorem Hz{B n0:Nat}{A W:World}(h:Below B A W)(hB:B<=n0)(x y z e:Value):Below B A ((((W.setCell ⟨n0,0,none⟩ x).setCell ⟨n0,1,none⟩ y).setCell ⟨n0,2,none⟩ z).setCell ⟨n0+1,0,none⟩ e) :=
 (((h.setCell (p:=⟨n0,0,none⟩) hB _).setCell (p:=⟨n0,1,none⟩) hB _).setCell (p:=⟨n0,2,none⟩) hB _).setCell (p:=⟨n0+1,0,none⟩) (Nat.le_succ_of_le hB) _
theorem Sd(n0:Nat)(W:World)(x y z e:Value):KeepsOthers W ((((W.setCell ⟨n0,0,none⟩ x).setCell ⟨n0,1,none⟩ y).setCell ⟨n0,2,none⟩ z).setCell ⟨n0+1,0,none⟩ e) :=
 (((KeepsOthers.setCell _ _ _).trans (KeepsOthers.setCell _ _ _)).trans (KeepsOthers.setCell _ _ _)).trans (KeepsOthers.setCell _ _ _)
theorem aSS.kept{fn x:Int}{g b1 o1 b2 o2 b3 o3:Nat}{W W':World}{row:Option Nat}(h:aSS fn x g b1 o1 b2 o2 b3 o3 W)(hg:W.grownBy W' row)(hr:∀r,row=some r->∃o:Obj,W.heap[r]?=some o/\o.isCells=false):aSS fn x g b1 o1 b2 o2 b3 o3 W' :=
 ⟨cell_kept h.c1 hg hr,cell_kept h.c2 hg hr,cell_kept h.c3 hg hr⟩
set_option maxRecDepth 100000 in
set_option maxHeartbeats 8000000 in
theorem bCE (f fn b s l:Int) (hb:0<=b/\b<18446744073709551616) (hl:jZ.Ik s l=true) (he:gB.qC f fn b=0) (hs:(dC.Ki f fn b).2=false) {w:World} (hG:GlobOk base.glob O0 w):Calls prog 28 #[.int .i64 f,.int .i64 fn,.int .u64 b,.int .i64 s,.int .i64 l] w fun e w'=>e=.returned (.tuple #[.agg #[.int .u64 (Rn f fn b s l).1,.bool (Rn f fn b s l).2.1,.int .i64 (Rn f fn b s l).2.2],.int .i64 0])/\Below w.heap.size w w':=by
 refine(callsIn_wide (n:=3)).1 ?_;refine callsIn_of_wp_marks func28 rfl trivial ?_ rfl;simp only[Tryz.ntmps28,cDF,cFA,cFB,cQO,cQP,Array.replicate_succ,Array.replicate_zero,cQQ,cQR,cFS,cDI];have bEI:=bMI 2 hb he hG;have bBJ:=bMH 2 hl hG;have bPR:=bRP 2 hb he hs hG;have cAG:∀w',Below w.heap.size w w'->CallsIn Fence.wide 2 prog 73 #[.int .i64 f,.int .i64 fn,.int .u64 b] w' fun e w2=>∃b1 o1 b2 o2 b3 o3,e=.returned (.agg #[.int .i64 f,.func (.func 126) #[] #[ptr b1 o1,ptr b2 o2,ptr b3 o3]])/\Below w'.heap.size w' w2/\aSS fn (eR.xV f b) (eR.gV fn) b1 o1 b2 o2 b3 o3 w2:=fun w' tR =>
  callsIn_wide.2 (bFF f fn b hb (wQ hG tR))
 have aGG:∀(a:Addr) (W:World) (v:Value) (x:Fn) (y z:Array Value),W.cell? a=some v->W.frozen? a=false->(store a (.func x y z)).run prog W=.ok () (W.setCell a (.func x y z)):=fun a W v x y z h1 h2=>by
  rw[run_store _ _ _ _ _ rfl,h1,h2];rfl
 obtain⟨W2,bKU,aGQ,z2,r1,r2⟩:=opened w
 gi_wp2_with (refine⟨trivial,?_⟩;first
  | (gi_at_call 71;refine(bEI _ aGQ).mono ?_;rintro e w3 ⟨rfl,Ds⟩;have bWI:=Ds.size;have aPG:Below w.heap.size w w3:=aGQ.trans (Ds.mono (by omega)))
  | (gi_at_call 75;refine(bBJ _ aPG).mono ?_;rintro e w4 ⟨rfl,Ze⟩;have bMN:=Ze.size;have aVF:Below w.heap.size w w4:=aPG.trans (Ze.mono (by omega)))
  | (gi_at_call 72;refine(bPR _ aVF).mono ?_;rintro e w5 ⟨rfl,aVC⟩;have bWH:=aVC.size;have bLB:Below w.heap.size w w5:=aVF.trans (aVC.mono (by omega)))
  | (gi_at_call 73;refine(cAG _ bLB).mono ?_;rintro e w6 ⟨b1,o1,b2,o2,b3,o3,rfl,bKR,bBD⟩;have hz6:=bKR.size;have cAF:Below w.heap.size w w6:=bLB.trans (bKR.mono (by omega));obtain⟨c1,c2,c3,k1,k2,k3⟩:=three (((((bKR.block _ (by omega)).trans (aVC.block _ (by omega))).trans (Ze.block _ (by omega))).trans (Ds.block _ (by omega))).trans r1);obtain⟨c4,k4⟩:=one (((((bKR.block _ (by omega)).trans (aVC.block _ (by omega))).trans (Ze.block _ (by omega))).trans (Ds.block _ (by omega))).trans r2))
  | (gi_at_call 70;refine(callsIn_wide.2 (IvLadder.make _ s l)).mono ?_;rintro e w7 ⟨rfl,rfl⟩))
 have aCR:1<=s/\s<=l/\l<=66000:=of_decide_eq_true hl;have aUR:=Ziv.Yj hb he hs;have hf:=aUR.fin.1;have bNO:∀x:IvLadder.aAQ,(Ak.sp (f,eR.gV fn,fn,eR.xV f b) x.1).1:=fun x=>by
  obtain⟨h1,h2⟩:=Ziv.xG aUR x.2;exact⟨h1,hf,h2.Aw⟩
 obtain⟨W7,bKT⟩:∃W7,w6.alloc (.cells #[.int .i64 f,.func (.func 126) #[] #[ptr b1 o1,ptr b2 o2,ptr b3 o3]] 129)=W7:=⟨_,rfl⟩;obtain⟨W8,bIA⟩:∃W8,(W7.alloc (.cells #[.int .i64 s] 3)).alloc (.cells #[.int .i64 l] 3)=W8:=⟨_,rfl⟩;rw[bKT,bIA];have z7:W7.heap.size=w6.heap.size+1:=by rw[<-bKT];simp
 have z8:W8.heap.size=w6.heap.size+3:=by rw[<-bIA];simp[z7]
 have bOY:Below w6.heap.size w6 W7:=by rw[<-bKT];exact(Below.refl _ _).alloc (cBP _) _
 have bHY:Below W7.heap.size W7 W8:=by rw[<-bIA];exact((Below.refl _ _).alloc (cBP _) _).alloc (by simp) _
 have aCU:Below w6.heap.size w6 W8:=bOY.trans (bHY.mono (by omega));have bTP:Below w.heap.size w W8:=cAF.trans (aCU.mono (by omega));have q7:W7.heap[w6.heap.size]?=some (.cells #[.int .i64 f,.func (.func 126) #[] #[ptr b1 o1,ptr b2 o2,ptr b3 o3]] 129 (0,0)):=by rw[<-bKT];exact World.alloc_heap_new _ _
 have q8:W8.heap[w6.heap.size]?=some (.cells #[.int .i64 f,.func (.func 126) #[] #[ptr b1 o1,ptr b2 o2,ptr b3 o3]] 129 (0,0)):=(bHY.block _ (by omega)).trans q7;have p1:W8.cell? ⟨w6.heap.size,0,none⟩=some (.int .i64 f):=by simp[World.cell?,q8]
 have p2:W8.cell? ⟨w6.heap.size,1,none⟩=some (.func (.func 126) #[] #[ptr b1 o1,ptr b2 o2,ptr b3 o3]):=by simp[World.cell?,q8]
 have s1:W8.cell? ⟨W7.heap.size,0,none⟩=some (.int .i64 s):=by rw[<-bIA,World.cell?_alloc_past _ _ _ (by simp)];simp
 have s2:W8.cell? ⟨W7.heap.size+1,0,none⟩=some (.int .i64 l):=by rw[<-bIA];simp[World.cell?_alloc_at]
 rw[z7]at s1 s2;have Uw:aBI w.heap.size (.int .u64 0) (.bool false) (.int .i64 0) (.int .i64 0) W8:=aBI.below ⟨c1,c2,c3,c4,k1,k2,k3,k4⟩ aCU;have bHT:aSS fn (eR.xV f b) (eR.gV fn) b1 o1 b2 o2 b3 o3 W8:=bBD.kept (row:=none) ⟨aCU.os,aCU.tape,aCU.output,aCU.size,fun k hk _=>aCU.block k hk⟩ (fun r e=>by cases e);refine wpIn_rangeFunc_ownF rfl (by omega) (gf:=124) (lb:=#[.pointer (some ⟨w6.heap.size+1,0,none⟩),.pointer (some ⟨w6.heap.size+1+1,0,none⟩)]) rfl trivial (enters_of func124 (by kernel_rfl) rfl)
  (IvLadder.stops Fence.wide (3-1) trivial trivial rfl (by omega) (w6.heap.size+1) W8.heap.size s l ⟨aCR.1,by omega⟩ aCR.2.2 aCR.2.1 W8 (fun w' aXO=>callsIn_wide.2 (callsIn_wide.1 (bBJ w' (bTP.trans (aXO.mono (by omega)))))) (by omega) (cBP _) s1 s2) belowK_t (belowK_b (cBP _)) (Below.refl _ _) (fun _=>rfl)
  (fun pre W=>((∀r∈pre,(dC.zL f fn b r.1).2=false)/\aBI w.heap.size (.int .u64 0) (.bool false) (.int .i64 0) (.int .i64 0) W/\W.cell? ⟨w6.heap.size,0,none⟩=some (.int .i64 f)/\W.cell? ⟨w6.heap.size,1,none⟩=some (.func (.func 126) #[] #[ptr b1 o1,ptr b2 o2,ptr b3 o3])/\aSS fn (eR.xV f b) (eR.gV fn) b1 o1 b2 o2 b3 o3 W/\W8.heap.size<=W.heap.size)/\Below w.heap.size w W)
  (fun c pre W=>(c=.ret/\∃(r:IvLadder.aAQ) (init:List IvLadder.aAQ),pre=init ++ [r]/\(∀r∈init,(dC.zL f fn b r.1).2=false)/\(dC.zL f fn b r.1).2=true/\aBI w.heap.size (.int .u64 (dC.zL f fn b r.1).1) (.bool true) (.int .i64 r.1) (.int .i64 0) W)/\Below w.heap.size w W)
  (OwnFrom.and (Own.from (fun t A B row hs hg hr=>⟨hs.1,hs.2.1.kept hg hr,cell_kept hs.2.2.1 hg hr,cell_kept hs.2.2.2.1 hg hr,hs.2.2.2.2.1.kept hg hr,cCL hs.2.2.2.2.2 hg.size⟩) _) (ownFrom_below (cBP _) (by omega)))
  (fun c=>OwnFrom.and (Own.from (fun t A B row hs hg hr=>by obtain⟨h1,r,init,h2,h3,h4,h5⟩:=hs;exact⟨h1,r,init,h2,h3,h4,h5.kept hg hr⟩) _) (ownFrom_below (cBP _) (by omega)))
  ⟨⟨(fun r h=>by cases h),Uw,p1,p2,bHT,cBP _⟩,bTP⟩ ?a₁ ?assign ?body ?done ?stop
 case assign =>
  intro k x W K hK
  gi_wp2
  exact hK
 case body =>
  rintro k pre x W ⟨⟨bDU,hR,Ao,wZ,hC,hZ⟩,hB⟩ _;have cAE:GlobOk base.glob O0 W:=wQ hG hB;have bIG:=aVV f fn (eR.xV f b) x.1 hC (bNO x) cAE;have ez:Ak.dec f (eR.gV fn) fn (eR.xV f b) x.1=dC.zL f fn b x.1:=rfl;rw[ez]at bIG;have uE:=hB.size;have Dr:=Yp hR.c1;have aCN:=Yp hR.c4;cases hd:(dC.zL f fn b x.1).2 with
  |false =>
   rw[hd]at bIG
   gi_wp2
   refine⟨trivial,?_⟩
   gi_at_call 74
   refine(CallsIn.inRound k (callsIn_wide.2 bIG)).mono ?_;rintro e w9 ⟨rfl,Zd⟩
   gi_wp2
   have gr:W.grownBy w9 none:=⟨Zd.os,Zd.tape,Zd.output,Zd.size,fun k hk _=>Zd.block k hk⟩;have nr:∀r,(none:Option Nat)=some r->∃o:Obj,W.heap[r]?=some o/\o.isCells=false:=fun r e=>by cases e
   refine⟨KeepsOthers.of_grownBy gr (fun j o e=>by cases e),Zd.mono hZ,⟨fun r hr=>?_,hR.kept gr nr,cell_kept Ao gr nr,cell_kept wZ gr nr,hC.kept gr nr,cCL hZ Zd.size⟩,hB.trans (Zd.mono (by omega))⟩;rcases List.mem_append.1 hr with hr |hr
   ·exact bDU r hr
   ·rw[List.mem_singleton.1 hr];exact hd
  |true =>
   rw[hd]at bIG
   gi_wp2_with (refine⟨trivial,?_⟩;gi_at_call 74;refine(CallsIn.inRound k (callsIn_wide.2 bIG)).mono ?_;rintro e w9 ⟨rfl,Zd⟩;obtain⟨c1,c2,c3,c4,k1,k2,k3,k4⟩:=hR.below Zd)
   have gr:W.grownBy w9 none:=⟨Zd.os,Zd.tape,Zd.output,Zd.size,fun k hk _=>Zd.block k hk⟩;exact⟨(KeepsOthers.of_grownBy gr (fun j o e=>by cases e)).trans (Sd _ _ _ _ _ _),⟨rfl,x,pre,rfl,bDU,hd,(aBI.below hR Zd).put _ _ _ _⟩,Hz (hB.trans (Zd.mono (by omega))) (cBP _) _ _ _ _⟩
 case done =>
  rintro D ys W hD hS ⟨⟨bDU,hR,_⟩,hB⟩ hK;have bZU:=hR;obtain⟨c1,c2,c3,c4,k1,k2,k3,k4⟩:=bZU
  gi_wp2
  have bTJ:=(Sd w.heap.size W (.int .u64 0) (.bool false) (.int .i64 0) (.int .i64 0)).same D _ hK rfl;refine⟨by simp,.inl ⟨_,_,rfl,run_takeDeferred bTJ,?_⟩⟩;have bPF:=(hR.put (.int .u64 0) (.bool false) (.int .i64 0) (.int .i64 0)).kept (grownBy_putObj' _ D (.deferred none)) (fun r e=>by cases e;exact⟨_,bTJ,rfl⟩);have en:Rn f fn b s l=(0,false,0):=by
   unfold Rn;rw[<-hS,Oo (fun r hr=>by obtain⟨x,hx,rfl⟩:=List.mem_map.1 hr;exact bDU x hx)]
  refine⟨_,bPF.out _ rfl rfl,?_⟩;rw[en];exact⟨rfl,(Hz hB (cBP _) _ _ _ _).grown (grownBy_putObj' _ D (.deferred none)) (Hz hB (cBP _) _ _ _ _).size (fun k e=>by cases e;omega)⟩
 case stop =>
  rintro D c pre W hD hS ⟨⟨rfl,r,init,rfl,bDU,hd,hR⟩,hB⟩ hK
  gi_wp2
  refine⟨by simp,.inl ⟨_,_,rfl,run_takeDeferred hK,?_⟩⟩;have bPF:=hR.kept (grownBy_putObj' _ D (.deferred none)) (fun r e=>by cases e;exact⟨_,hK,rfl⟩);have en:Rn f fn b s l=((dC.zL f fn b r.1).1,true,r.1):=by
   obtain⟨rest,hr⟩:=hS;unfold Rn;rw[<-hr,List.map_append,List.map_cons,List.map_nil,cDK,cDI,cFS,Om (fun r hr=>by obtain⟨x,hx,rfl⟩:=List.mem_map.1 hr;exact bDU x hx) hd]
  refine⟨_,bPF.out _ rfl rfl,?_⟩;rw[en];exact⟨rfl,hB.grown (grownBy_putObj' _ D (.deferred none)) hB.size (fun k e=>by cases e;omega)⟩
def Qz(f fn b s l:Int):Int:=if jZ.Ik s l then gB.qC f fn b else 1
def Gz(f fn b s l:Int):Int×Bool×Int:=if Qz f fn b s l≠0 then(0,false,0)else bif (dC.Ki f fn b).2 then((dC.Ki f fn b).1,true,0)else Rn f fn b s l
def sp(f fn b s l:Int):Prop×List D:=(0<=b/\b<18446744073709551616,[.agg [.sc (.int .u64 (Gz f fn b s l).1),.sc (.bool (Gz f fn b s l).2.1),.sc (.int .i64 (Gz f fn b s l).2.2)],.s (.sc (.int .i64 (Qz f fn b s l)))])
def aJ:dJ:=orc5 (pN .i64) (pN .i64) (pN .u64) (pN .i64) (pN .i64) sp
theorem ok:OK 28 aJ:=aTT (sT func28 rfl rfl) fun f fn b s l hb=>by
 have hb:0<=b/\b<18446744073709551616:=hb;refine Zu (xs:=[.int .i64 f,.int .i64 fn,.int .u64 b,.int .i64 s,.int .i64 l]) (ys:=[.agg #[.int .u64 (Gz f fn b s l).1,.bool (Gz f fn b s l).2.1,.int .i64 (Gz f fn b s l).2.2],.int .i64 (Qz f fn b s l)]) (fun w hG=>?_) rfl (fun i d v hd hv=>?_)
 ·unfold Gz
  by_cases he:Qz f fn b s l≠0
  ·rw[if_pos he];exact bad f fn b s l hb he hG
  ·rw[if_neg he];have e0:Qz f fn b s l=0:=Classical.not_not.1 he;rw[e0];unfold Qz at e0;cases hl:jZ.Ik s l with
   |false=>rw[hl]at e0;cases e0
   |true =>
    rw[hl,if_pos rfl]at e0;cases hs:(dC.Ki f fn b).2 with
    |true=>exact aTE f fn b s l hb hl e0 hs hG
    |false=>exact bCE f fn b s l hb hl e0 hs hG
 ·match i with
  |0=>cases hd;cases hv;exact⟨rfl,fun Y w=>bQK rfl rfl rfl⟩
  |1=>cases hd;cases hv;exact⟨rfl,fun Y w=>⟨rfl,rfl⟩⟩
  |i+2=>cases hd
end IvClimb
namespace mR
def E:=mE [(28,IvClimb.aJ)] 23 [15] [] []
def aE:=bd f26
theorem aT:Nk E aE:=nk
theorem start a b c:aF E f26 aE [D.s (sc (int i64 a)),D.s (sc (int i64 b)),D.s (sc (int u64 c))]=letI A:=IvClimb.Gz a b c 128 65536;aN (0<=c/\c<18446744073709551616) (some [D.s (sc (int u64 A.fst)),D.s (sc (bool A.snd.fst)),D.s (sc (int i64 (IvClimb.Qz a b c 128 65536)))]):=eJ aT
def Je(f fn b:Int):Int×Bool×Int:=IvClimb.Gz f fn b 128 65536
def sp(f fn b:Int):Prop×List D:=(0<=b/\b<18446744073709551616,[.s (.sc (.int .u64 (Je f fn b).1)),.s (.sc (.bool (Je f fn b).2.1)),.s (.sc (.int .i64 (gB.qC f fn b)))])
theorem spec:oG E f26 aE (pN .i64) (pN .i64) (pN .u64) sp:=by
 intro f fn b h;refine(start f fn b).trans ((gP h).trans ?_);have e:IvClimb.Qz f fn b 128 65536=gB.qC f fn b:=if_pos rfl;rw[e];rfl
def aJ:dJ:=orc3 (pN .i64) (pN .i64) (pN .u64) sp
theorem ok:OK 26 aJ:=(dY E aE (aA IvClimb.ok aC) func26).xN rfl spec
end mR
end W
namespace W.Ziv
open Go AI M W W.aDY
theorem tF{f:Int}(hf:f=32\/f=64){p q:Int×Int}(h0:0<p.1)(h:R.qz p<=R.qz q):jJ.kG f p<=jJ.kG f q:=by
 have q0:0<q.1:=kO.1 (by have:=kO.2 h0;grind);have m:=aIF hf h;have b1:=Ru hf p;have b2:=Ru hf q;rw[yC h0,yC q0]at *;unfold ord at m;rw[aR,aR]at m;exact m
def Jo(f Q:Int)(V:Rat):Prop:=∃a c:Int×Int,0<a.1/\R.qz a<=V/\V<=R.qz c/\jJ.kG f a=Q/\jJ.kG f c=Q
def aAW(f Q:Int)(V:Rat):Prop:=Jo f Q V\/Jo f (Q-sg f) (-V)
theorem Jo.pos{f Q:Int}{V:Rat}(h:Jo f Q V):0<V:=by
 obtain⟨a,c,h0,h1,_⟩:=h;have:=kO.2 h0;grind
theorem Jo.bd{f Q:Int}{V:Rat}(hf:f=32\/f=64)(h:Jo f Q V):0<=Q/\Q<=mJ.qB (Fm.Gc f)/\mJ.qB (Fm.Gc f)<sg f:=by
 obtain⟨a,c,h0,_,_,rfl,_⟩:=h;rw[yC h0];exact Ru hf a
theorem Jo.eq{f Q Q':Int}{V:Rat}(hf:f=32\/f=64)(h:Jo f Q V)(h':Jo f Q' V):Q=Q':=by
 obtain⟨a,c,h0,h1,h2,rfl,e1⟩:=h;obtain⟨a',c',bPX,aBC,aVG,rfl,e2⟩:=h';have m1:=tF hf h0 (cGU h1 aVG);have m2:=tF hf bPX (cGU aBC h2);omega
theorem aAW.eq{f Q Q':Int}{V:Rat}(hf:f=32\/f=64)(h:aAW f Q V)(h':aAW f Q' V):Q=Q':=by
 rcases h with h |h <;> rcases h' with h' |h'
 ·exact h.eq hf h'
 ·have:=h.pos;have:=h'.pos;grind
 ·have:=h.pos;have:=h'.pos;grind
 ·have:=h.eq hf h';omega
def flip(f b:Int):Int:=if b<sg f then b+sg f else b-sg f
theorem aAW.bRF{f Q Q':Int}{V:Rat}(hf:f=32\/f=64)(h:aAW f Q V)(h':aAW f Q' (-V)):Q=flip f Q':=by
 unfold flip;rcases h with h |h <;> rcases h' with h' |h'
 ·have:=h.pos;have:=h'.pos;grind
 ·rw[show - -V=V by grind]at h';have:=h.eq hf h';have:=h.bd hf;rw[aP];omega
 ·have:=h.eq hf h';have:=h'.bd hf;rw[aR];omega
 ·rw[show - -V=V by grind]at h';have:=h.pos;have:=h'.pos;grind
theorem aAW.bd{f Q:Int}{V:Rat}(hf:f=32\/f=64)(h:aAW f Q V):0<=Q/\Q<2*sg f:=by
 rcases h with h |h <;> have:=h.bd hf <;> omega
theorem bCM{f fn b p Q:Int}(h:Ns f fn b)(hp:1<=p/\p<=66000)(hd:dC.zL f fn b p=(Q,true)):aAW f Q (vZ fn (eR.xV f b)):=by
 have hf:=h.fin.1;obtain⟨_,hE⟩:=xG h hp;have Xv:=hE.Xv hp.1;obtain⟨_,_,lo,hi,_,v0⟩:=hE;have hd:pY.aKZ f (kN.enc (eR.gV fn) fn (eR.xV f b) p)=(Q,true):=hd;generalize kN.enc (eR.gV fn) fn (eR.xV f b) p=s at *;generalize vZ fn (eR.xV f b)=V at *;unfold pY.aKZ at hd
 by_cases e:jJ.kG f s.1=jJ.kG f s.2
 ·rw[if_pos e]at hd;have hQ:jJ.kG f s.1=Q:=congrArg Prod.fst hd
  by_cases hV:0<V
  ·exact .inl ⟨s.1,s.2,kO.1 (Xv.1 hV),lo,hi,hQ,by omega⟩
  ·have hn:V<0:=by grind
   have s2:=yX.1 (Xv.2 hn);have s1:s.1.1<0:=yX.1 (by have:=Xv.2 hn;grind);have n1:=Nj hf s1;have n2:=Nj hf s2;refine .inr ⟨(-s.2.1,s.2.2),(-s.1.1,s.1.2),by show 0 < -s.2.1;omega,?_,?_,?_,?_⟩
   ·rw[nV];grind
   ·rw[nV];grind
   ·rw[yC (by show 0 < -s.2.1;omega)];have:sz f (-s.2.1,s.2.2)=sz f s.2:=by unfold sz;rw[cIJ]
    omega
   ·rw[yC (by show 0 < -s.1.1;omega)];have:sz f (-s.1.1,s.1.2)=sz f s.1:=by unfold sz;rw[cIJ]
    omega
 ·rw[if_neg e]at hd;cases congrArg Prod.snd hd
theorem Xy:∀{k:Nat} {p l r:Int},1<=p->r∈IvLadder.rungsF k p l->1<=r/\r<=l
 |0,_,_,_,_,h=>by cases h
 |k+1,p,l,r,hp,h=>by
  unfold IvLadder.rungsF at h
  by_cases c:p<=l
  ·rw[if_pos c]at h;cases h with
   |head=>exact⟨hp,c⟩
   |tail _ h=>exact Xy (by omega) h
  ·rw[if_neg c]at h;cases h
theorem Sv{f fn b r:Int}:∀{rs:List Int},IvClimb.first f fn b rs=some r->r∈rs/\(dC.zL f fn b r).2=true
 | [],h=>by cases h
 |x :: rs,h=>by
  unfold IvClimb.first at h
  cases c:(dC.zL f fn b x).2 with
  |true=>rw[c,cond_true]at h;cases h;exact⟨.head _,c⟩
  |false =>
   rw[c,cond_false]at h;obtain⟨h1,h2⟩:=Sv h;exact⟨.tail _ h1,h2⟩
theorem Xg{f fn b:Int}(hb:0<=b/\b<18446744073709551616)(he:gB.qC f fn b=0)(hs:(dC.Ki f fn b).2=false)(hv:(mR.Je f fn b).2.1=true):aAW f (mR.Je f fn b).1 (vZ fn (eR.xV f b)):=by
 have hn:=Yj hb he hs;have el:jZ.Ik 128 65536=true:=rfl;unfold mR.Je IvClimb.Gz IvClimb.Qz at *;rw[el,if_pos rfl,he,if_neg (by decide),hs,cond_false]at *;unfold IvClimb.Rn at *;cases hr:IvClimb.first f fn b (IvLadder.rungsF 17 128 65536)with
 |none=>rw[hr]at hv;cases hv
 |some r =>
  obtain⟨h1,h2⟩:=Sv hr;obtain⟨h3,h4⟩:=Xy (by decide) h1;refine bCM hn (p:=r) ⟨h3,by omega⟩ ?_;show _=((dC.zL f fn b r).1,true);rw[<-h2]
end W.Ziv
namespace W.Ziv
open Go AI M W W.aDY
theorem Vh{f b:Int}(h:Fin f b):Fin f (flip f b)/\cG.iW f (flip f b)=(-(cG.iW f b).1,(cG.iW f b).2):=by
 obtain⟨hf,hb,h1,h2⟩:=h;obtain⟨e1,e2⟩:=Ju hf;have hs:0<sg f:=by unfold sg;split <;> omega
 have r:0<=flip f b/\flip f b<2*sg f:=by unfold flip;split <;> omega
 have m:flip f b%sg f=b%sg f:=by
  rw[aNT r,aNT hb];unfold flip
  by_cases c:b<sg f
  ·rw[if_pos c,if_pos c,aP];omega
  ·rw[if_neg c,if_neg c,aR]
 refine⟨⟨hf,r,by rw[m];exact h1,by rw[m];exact h2⟩,?_⟩;refine Xc.aNL (by rw[e1];exact m) ?_;rw[e1];unfold flip
 by_cases c:b<sg f
 ·rw[if_pos c,decide_eq_true (by omega),decide_eq_false (by omega)];rfl
 ·rw[if_neg c,decide_eq_false (by omega),decide_eq_true (by omega)];rfl
theorem Zj{x:Int}(h:Fin 64 x):Real x:=by
 obtain⟨_,hb,h1,h2⟩:=h;have hx:0<=x/\x<18446744073709551616:=hb;have h1:0<x%9223372036854775808:=h1;have h2:x%9223372036854775808<9218868437227405312:=h2;have c:fL.Tr 1 x 1=0:=by rw[aBN,aP,aP,aP,aP,if_pos h2]
 exact(aFL hx c (by omega)).1
theorem aZQ{f fn b:Int}(h:Ns f fn b):Ns f fn (flip f b):=by
 obtain⟨hF,hn⟩:=Vh h.fin;obtain⟨hf,hb,h1,_⟩:=h.fin;obtain⟨e1,e2⟩:=Ju hf;refine⟨hF,h.f1,h.f6,fun c4=>?_⟩;rw[hn,(Xc.bBQ (Xc.Ul hf hb.1 (by rw[e1];exact h1))).2.1];exact h.ex c4
theorem aFP:let lo:Int×Int:=(834804340821298061589,-70);let hi:Int×Int:=(834804340821298061592,-70);(R.qz lo<=R.sn (R.pi/4)/\R.sn (R.pi/4)<=R.qz hi)/\(R.qz lo<=R.cs (R.pi/4)/\R.cs (R.pi/4)<=R.qz hi):=by
 obtain⟨p1,p2⟩:=R.iH;have a1:R.ab (R.pi/4)<=4:=by rw[R.cK];grind
 have h1:=R.aNB a1;have h2:=R.It a1;rw[show 2*(R.pi/4)=R.pi/2 by grind]at h2;have h3:=R.Gr;have h4:=R.Ls;have e0:=R.vY;have h5:=R.Iq (n:=80) (by decide);rw[R.aXC]at h5;have h5:R.Du<=R.pz (-80):=h5;have s1:=(R.xY (x:=R.pi/4) (by grind) (by grind)).1;have c1:=(R.Gq (x:=R.pi/4) (by grind) (by grind)).1;have q0:=R.cB (a:=0) (b:=R.pi/4) (c:=R.pi/4) (d:=R.pi/4) (by grind) (by grind) (by grind) (by grind);have q1:=R.cB (a:=R.pi/4) (b:=4/5) (c:=R.pi/4) (d:=4/5) (by grind) (by grind) (by grind) (by grind);have q2:=R.cB (a:=R.pi/4*(R.pi/4)) (b:=16/25) (c:=R.pi/4) (d:=4/5) (by grind) (by grind) (by grind) (by grind);have s2:1/2<=R.sn (R.pi/4):=by grind
 have c2:1/2<=R.cs (R.pi/4):=by grind
 rw[R.cK]at h1 h2;have hc:R.ab (R.cs (R.pi/2))<=R.Du:=by grind
 rw[R.cK]at hc;have key:∀y:Rat,1/2<=y->-(4*R.Du)<=2*(y*y)-1->2*(y*y)-1<=4*R.Du->R.qz (834804340821298061589,-70)<=y/\y<=R.qz (834804340821298061592,-70):=by
  intro y y0 l1 l2;have hw:R.pz (-70)*((2^70:Nat):Rat)=1:=by
   have:=R.fU 0 (n:=70) (c:=((2^70:Nat):Rat)) rfl;rwa [R.fM]at this
  have w0:=R.dU (-70);have w1:=R.fU (-70) (n:=10) (c:=1024) (by norm_cast);rw[show(-70:Int)-((10:Nat):Int)=-80 by decide]at w1;have q:∀z:Int,R.qz (z,-70)=(z:Rat)*R.pz (-70):=fun z=>rfl
  have n1:(((834804340821298061589:Nat)*(834804340821298061589:Nat)*2+2^70:Nat):Rat)<=((2^70*2^70:Nat):Rat):=by exact_mod_cast(show(834804340821298061589:Nat)*834804340821298061589*2+2^70<=2^70*2^70 by decide +kernel)
  have n2:((2^70*2^70+2^70:Nat):Rat)<=(((834804340821298061592:Nat)*(834804340821298061592:Nat)*2:Nat):Rat):=by exact_mod_cast(show 2^70*2^70+2^70<=(834804340821298061592:Nat)*834804340821298061592*2 by decide +kernel)
  have two:((2:Nat):Rat)=2:=by norm_cast
  rw[cMB,cIO,cIO,cIO,two]at n1;rw[cMB,cIO,cIO,cIO,two]at n2;rw[q,q,show(834804340821298061589:Int)=((834804340821298061589:Nat):Int)from rfl,show(834804340821298061592:Int)=((834804340821298061592:Nat):Int)from rfl,cNB,cNB];have a0:(0:Rat)<=((834804340821298061589:Nat):Rat):=by exact_mod_cast cHS _
  have b0:(0:Rat)<=((834804340821298061592:Nat):Rat):=by exact_mod_cast cHS _
  generalize ((834804340821298061589:Nat):Rat)=A at *;generalize ((834804340821298061592:Nat):Rat)=B at *;generalize ((2^70:Nat):Rat)=W at *;generalize R.pz (-70)=w at *;clear q two;have W0:0<W:=by
   refine Rat.not_le.1 fun hn=>?_
   have:=R.aG (cGW w0) (show 0<=-W by grind);grind
  have i1:=R.aG (R.aG (cGW w0) (cGW w0)) (show 0<=W*W-(A*A*2+W) by grind);have i2:=R.aG (R.aG (cGW w0) (cGW w0)) (show 0<=B*B*2-(W*W+W) by grind);have j1:w*w*(W*W-(A*A*2+W))=(w*W)*(w*W)-2*((A*w)*(A*w))-w*(w*W):=by grind
  have j2:w*w*(B*B*2-(W*W+W))=2*((B*w)*(B*w))-(w*W)*(w*W)-w*(w*W):=by grind
  rw[j1,hw]at i1;rw[j2,hw]at i2;have x0:0<=A*w:=R.aG a0 (cGW w0);have x1:0<=B*w:=R.aG b0 (cGW w0);constructor
  ·refine Rat.not_lt.1 fun hn=>?_
   have:=R.cB (show 0<=y by grind) (cGW hn) (show 0<=y by grind) (cGW hn);grind
  ·refine Rat.not_lt.1 fun hn=>?_
   have:=R.cB x1 (cGW hn) x1 (cGW hn);grind
 exact⟨key _ s2 (by grind) (by grind),key _ c2 (by grind) (by grind)⟩
theorem aYL{fn x y:Int}(hx:Real x)(hy:Real y)(h:cG.iW 64 y=(-(cG.iW 64 x).1,(cG.iW 64 x).2)):vx fn y=if fn=2 then vx fn x else -vx fn x:=by
 have q:R.qz (aZ.qN y)=-R.qz (aZ.qN x):=by
  rw[show aZ.qN y=(-(aZ.qN x).1,(aZ.qN x).2)from h,nV]
 have k:kx y=-kx x:=by
  have hn:=Lr hx;refine R.aLM hy.x.fit (Lr hy) ?_;rw[q];unfold R.sA at hn ⊢;rw[R.Uj,R.iZ];exact hn
 unfold vx;rw[k,q,R.bBO]
def hP(f:Int):Int:=jJ.kG f (834804340821298061589,-70)
theorem aYD{f:Int}(hf:f=32\/f=64):jJ.kG f (834804340821298061592,-70)=hP f:=by rcases hf with rfl |rfl <;> decide +kernel
theorem aTL{f:Int}(hf:f=32\/f=64):Jo f (hP f) (R.sn (R.pi/4)):=⟨(834804340821298061589,-70),(834804340821298061592,-70),by decide,aFP.1.1,aFP.1.2,rfl,aYD hf⟩
theorem aTM{f:Int}(hf:f=32\/f=64):Jo f (hP f) (R.cs (R.pi/4)):=⟨(834804340821298061589,-70),(834804340821298061592,-70),by decide,aFP.2.1,aFP.2.2,rfl,aYD hf⟩
theorem Jo.neg{f P:Int}{V:Rat}(h:Jo f P V):aAW f (P+sg f) (-V):=.inr (by rw[Int.add_sub_cancel,show - -V=V by grind];exact h)
theorem aYP{fn x y:Int}(h4:fn=4\/fn=5\/fn=6)(ho:(cG.iW 64 x).1%2=1)(ex:(dO.vE fn (cG.iW 64 x)).2.2=false)(h:cG.iW 64 y=(-(cG.iW 64 x).1,(cG.iW 64 x).2)) :
  (vT fn y=if fn=5 then vT fn x else -vT fn x)\/∀f:Int,f=32\/f=64->∃P P':Int,aAW f P (vT fn x)/\aAW f P' (vT fn y)/\if fn=5 then P=P' else P=flip f P':=by
 have hq:R.qz (bC.lM y)=-R.qz (bC.lM x):=by
  rw[show bC.lM y=(-(bC.lM x).1,(bC.lM x).2)from h,nV]
 obtain⟨f1,f2⟩:=Sb (bC.lM x);obtain⟨g1,g2⟩:=Sb (bC.lM y);have v1:=aFK (bC.lM x);have v2:=aFK (bC.lM y);have ho:(bC.lM x).1%2=1:=ho;have ex:(dO.vE fn (bC.lM x)).2.2=false:=ex;unfold vT;rw[hq]at g1 g2 v2;have qe:R.qz (bC.lM x)=((bC.lM x).1:Rat)*R.pz (bC.lM x).2:=rfl;generalize bC.uJ (bC.lM x)=K at *;generalize bC.uJ (bC.lM y)=K' at *;generalize R.qz (bC.Dp (bC.lM x))=r at *;generalize R.qz (bC.Dp (bC.lM y))=r' at *;generalize bC.lM x=n at *;obtain⟨m,e⟩:=n;dsimp only at ho qe;have he:e<=-2:=by
  unfold dO.vE at ex;dsimp only at ex;apply Classical.byContradiction;intro hn
  by_cases c0:0<=e
  ·rcases h4 with rfl |rfl |rfl <;> simp[c0]at ex
  ·have c1:e=-1:=by omega
   subst c1;rcases h4 with rfl |rfl |rfl <;> simp at ex
 have one:((1:Int):Rat)=1:=by norm_cast
 generalize R.qz (m,e)=q at *
 by_cases c:(K:Rat)<2*q+1/2
 ·
  have hK:K'=-K:=by
   have a1:(K':Rat)<(((-K)+1:Int):Rat):=by rw[cOP,cOO,one];grind
   have a2:((-K:Int):Rat)<((K'+1:Int):Rat):=by rw[cOP,cOO,one];grind
   have a1:K' < -K+1:=by exact_mod_cast a1
   have a2:-K<K'+1:=by exact_mod_cast a2
   omega
  subst hK;have hr:r'=-r:=by rw[v1,v2,cOO];grind
  rw[hr,show -r*R.pi=-(r*R.pi) by grind,R.xK,R.Ew];left;unfold tv;rw[R.aMW,R.aMY];rcases h4 with rfl |rfl |rfl
  ·rfl
  ·rfl
  ·rw[if_neg (by decide),if_neg (by decide),if_neg (by decide),if_neg (by decide),if_neg (by decide),cQT,cQT,Rat.neg_mul]
 ·right;have c:(K:Rat)=2*q+1/2:=by grind
  have hK:K'=1-K:=by
   have a1:(K':Rat)<=((1-K:Int):Rat):=by rw[cPV,one];grind
   have a2:((1-K:Int):Rat)<((K'+1:Int):Rat):=by rw[cOP,cPV,one];grind
   have a1:K'<=1-K:=by exact_mod_cast a1
   have a2:1-K<K'+1:=by exact_mod_cast a2
   omega
  subst hK;have hr:r=-1/4:=by grind
  have bNK:r'=-1/4:=by rw[v2,cPV,one];grind
  rw[hr,bNK,show -1/4*R.pi=-(R.pi/4) by grind,R.xK,R.Ew];have f6:fn≠6:=by
   rintro rfl;have e3:e≠-2:=by
    rintro rfl;simp[dO.vE]at ex
   obtain⟨t,rfl⟩:∃t:Nat,e=-((t+3:Nat):Int):=⟨(-e-3).toNat,by omega⟩;have k4:q*4=((2*K-1:Int):Rat):=by rw[cPV,cNA,one];grind
   have i:=R.Ue (-((t+3:Nat):Int));rw[Int.neg_neg,R.mI]at i;have m4:((m*4:Int):Rat)=(((2*K-1)*((2^(t+3):Nat):Int):Int):Rat):=by
    rw[cNA,cNA,<-k4,qe,cNB,show((4:Int):Rat)=4 by norm_cast];grind
   have m4:m*4=(2*K-1)*((2^(t+3):Nat):Int):=by exact_mod_cast m4
   rw[show((2^(t+3):Nat):Int)=((2^t:Nat):Int)*8 by rw[cGP];norm_cast,<-cIC]at m4;generalize (2*K-1)*((2^t:Nat):Int)=z at m4;omega
  intro f hf;have S:=aTL hf;have C:=aTM hf;have hb:=S.bd hf;have k4:K%4=0\/K%4=1\/K%4=2\/K%4=3:=by omega
  have bJP:∀{k:Int} {s c:Rat},k%4=0->R.rs k s c=s/\R.rc k s c=c:=fun hk=>by unfold R.rs R.rc;rw[hk];simp
  have Dx:∀{k:Int} {s c:Rat},k%4=1->R.rs k s c=c/\R.rc k s c=-s:=fun hk=>by unfold R.rs R.rc;rw[hk];simp
  have Lc:∀{k:Int} {s c:Rat},k%4=2->R.rs k s c=-s/\R.rc k s c=-c:=fun hk=>by unfold R.rs R.rc;rw[hk];simp
  have bJO:∀{k:Int} {s c:Rat},k%4=3->R.rs k s c=-c/\R.rc k s c=s:=fun hk=>by unfold R.rs R.rc;rw[hk];simp
  have nn:∀z:Rat,- -z=z:=fun z=>by grind
  have bTX:hP f=flip f (hP f+sg f):=by unfold flip;rw[aP];omega
  have bTW:hP f+sg f=flip f (hP f):=by unfold flip;rw[aR]
  have pS:aAW f (hP f) (R.sn (R.pi/4)):=.inl S;have pC:aAW f (hP f) (R.cs (R.pi/4)):=.inl C;unfold tv;rcases h4 with rfl |rfl |rfl
  ·simp only[if_true,show ¬(4:Int)=5 by decide,if_false];rcases k4 with k |k |k |k
   ·rw[(bJP k).1,(Dx (show(1-K)%4=1 by omega)).1];exact⟨_,_,S.neg,pC,bTW⟩
   ·rw[(Dx k).1,(bJP (show(1-K)%4=0 by omega)).1];exact⟨_,_,pC,S.neg,bTX⟩
   ·rw[(Lc k).1,(bJO (show(1-K)%4=3 by omega)).1,nn];exact⟨_,_,pS,C.neg,bTX⟩
   ·rw[(bJO k).1,(Lc (show(1-K)%4=2 by omega)).1,nn];exact⟨_,_,C.neg,pS,bTW⟩
  ·simp only[if_true,show ¬(5:Int)=4 by decide,if_false];rcases k4 with k |k |k |k
   ·rw[(bJP k).2,(Dx (show(1-K)%4=1 by omega)).2,nn];exact⟨_,_,pC,pS,rfl⟩
   ·rw[(Dx k).2,(bJP (show(1-K)%4=0 by omega)).2,nn];exact⟨_,_,pS,pC,rfl⟩
   ·rw[(Lc k).2,(bJO (show(1-K)%4=3 by omega)).2];exact⟨_,_,C.neg,S.neg,rfl⟩
   ·rw[(bJO k).2,(Lc (show(1-K)%4=2 by omega)).2];exact⟨_,_,S.neg,C.neg,rfl⟩
  ·exact absurd rfl f6
theorem aTZ{f fn b Q Q':Int}(h:Ns f fn b)(a:aAW f Q (vZ fn (eR.xV f b)))(a':aAW f Q' (vZ fn (eR.xV f (flip f b)))):if fn=2\/fn=5 then Q=Q' else Q=flip f Q':=by
 have hf:=h.fin.1;obtain⟨w1,w2⟩:=Tq h.fin;obtain⟨o1,o2⟩:=Vh h.fin;obtain⟨w3,w4⟩:=Tq o1;rw[o2,<-w2]at w4;have ex:=h.ex;rw[<-w2]at ex;have bGP:=Xc.Ul (f:=64) (.inr rfl) w1.2.1.1 w1.2.2.1;have f1:=h.f1;have f6:=h.f6;generalize eR.xV f b=x at *;generalize eR.xV f (flip f b)=y at *;unfold vZ at a a'
 by_cases c4:4<=fn
 ·rw[if_pos c4]at a a';rcases aYP (by omega) bGP (ex c4) w4 with e |e
  ·by_cases c5:fn=5
   ·rw[if_pos c5]at e;rw[if_pos (.inr c5)];rw[e]at a';exact a.eq hf a'
   ·rw[if_neg c5]at e;rw[aP];rw[e]at a';exact a.bRF hf a'
  ·obtain⟨P,P',p1,p2,p3⟩:=e f hf;have e1:=a.eq hf p1;have e2:=a'.eq hf p2;subst e1 e2
   by_cases c5:fn=5
   ·rw[if_pos c5]at p3;rw[if_pos (.inr c5)];exact p3
   ·rw[if_neg c5]at p3;rw[aP];exact p3
 ·rw[if_neg c4]at a a';have e:=aYL (fn:=fn) (Zj w1) (Zj w3) w4
  by_cases c2:fn=2
  ·rw[if_pos c2]at e;rw[if_pos (.inl c2)];rw[e]at a';exact a.eq hf a'
  ·rw[if_neg c2]at e;rw[aP];rw[e]at a';exact a.bRF hf a'
theorem aND{f b:Int}(hf:f=32\/f=64)(hb:0<=b/\b<2*sg f):cR.fH f b=true:=by
 unfold cR.fH;rcases hf with rfl |rfl
 ·exact decide_eq_true (show b<4294967296 by have:sg 32=2147483648:=rfl;omega)
 ·rfl
theorem bBU{f fn b:Int}(h:Ns f fn b):gB.qC f fn b=0:=by
 obtain⟨⟨hf,hb,_⟩,h1,h6,_⟩:=h;unfold gB.qC;rw[aP,aP];have hp:cR.fH f b=true:=aND hf hb;unfold pO.Qy mK.An;rw[decide_eq_true hf,hp];rfl
theorem aYW{f fn b:Int}(h:Ns f fn b):(dC.Ki f fn b).2=false:=by
 obtain⟨⟨hf,hb,h1,h2⟩,f1,f6,ex⟩:=h;have hp:cR.fH f b=true:=aND hf hb;obtain⟨e1,e2⟩:=Ju hf;have tR:0<=b/\b<18446744073709551616:=by have:2*sg f<=18446744073709551616:=by { unfold sg;split <;> omega };omega
 have hc:=(Vs hf tR hp).2;rw[aP,if_pos h2]at hc;have c12:jT.xS f b=1\/jT.xS f b=2:=by
  split at hc
  ·exact .inl hc
  ·exact .inr hc
 unfold dC.Ki lS.Mp;rw[aP,aP]
 by_cases c4:4<=fn
 ·rw[if_pos c4,Xc.aDA hf ⟨c4,f6⟩ hp (by rw[e1];omega) (by rw[e1,e2];exact h2),ex c4];rfl
 ·rw[if_neg c4,aP]
end W.Ziv
namespace W.Ziv
open Go AI M W W.aDY
def sI(u W:Nat):Nat->Int
 |0=>0
 |n+1=>sI u W n+(if n%4=1 then(R.sq u W n:Int)else if n%4=3 then -(R.sq u W n:Int)else 0)
def cI(u W:Nat):Nat->Int
 |0=>0
 |n+1=>cI u W n+(if n%4=0 then(R.sq u W n:Int)else if n%4=2 then -(R.sq u W n:Int)else 0)
theorem aWY(u W:Nat):∀n,((sI u W n:Int):Rat)=R.sum (fun k=>R.ss k*(R.sq u W k:Rat)) n
 |0=>by simp[sI,R.sum]
 |n+1=>by
  rw[sI,R.dX,cOP,aWY u W n];unfold R.ss;split
  ·rw[cQU,cNB]
  ·split
   ·rw[cOO,cNB];grind
   ·rw[cQS];rfl
theorem aYG(u W:Nat):∀n,((cI u W n:Int):Rat)=R.sum (fun k=>R.cc k*(R.sq u W k:Rat)) n
 |0=>by simp[cI,R.sum]
 |n+1=>by
  rw[cI,R.dX,cOP,aYG u W n];unfold R.cc;split
  ·rw[cQU,cNB]
  ·split
   ·rw[cOO,cNB];grind
   ·rw[cQS];rfl
def wK:Nat:=1208925819614629174706176
theorem aZA:R.ab (((1017275999990815458903788:Nat):Rat)-(wK:Rat)*R.sn 1)<=680/\R.ab (((653185407961314874212932:Nat):Rat)-(wK:Rat)*R.cs 1)<=680:=by
 have e1:sI (2^79) (2^80) 81=((579589912201271152073009:Nat):Int):=by decide +kernel
 have e2:cI (2^79) (2^80) 81=((1060932217912824869797341:Nat):Int):=by decide +kernel
 have h1:=aWY (2^79) (2^80) 81;have h2:=aYG (2^79) (2^80) 81;rw[e1,cNB]at h1;rw[e2,cNB]at h2;have m:((2^79:Nat):Rat)<((2^79:Nat):Rat)+1:=by grind
 have b:=R.aHK (T:=1) (w1:=79) (h:=1) (u:=2^79) (by grind) (cID) (by rw[Rat.mul_one];exact cID) (by rw[Rat.mul_one];exact m) (by decide) (by decide) (by decide) h1 h2;have d:R.Is (2^(79+1)) 1 579589912201271152073009 1060932217912824869797341=(1017275999990815458903788,653185407961314874212932):=by decide +kernel
 have w:2^(79+1)=wK:=by decide +kernel
 have t:((4^1*(2*(79+1)+10):Nat):Rat)=680:=by norm_cast
 rw[d,w,t]at b;exact b
def Qe:Int:=4607182418800017408
theorem aNH:Real Qe:=⟨by decide,by decide +kernel,by decide +kernel,by decide +kernel⟩
theorem aNI:R.qz (aZ.qN Qe)=1:=by
 rw[show aZ.qN Qe=(1,0) by decide +kernel,qT]
theorem aWR:R.pz (-80)*(wK:Rat)=1:=by
 have:=R.fU 0 (n:=80) (c:=(wK:Rat)) (by rw[show 2^80=wK by decide +kernel]);rwa [R.fM]at this
theorem aZK:R.ab (((1017275999990815458903788:Nat):Rat)-(wK:Rat)*R.Sf 1 (kx Qe))<=681/\R.ab (((653185407961314874212932:Nat):Rat)-(wK:Rat)*R.Cf 1 (kx Qe))<=681:=by
 obtain⟨p1,p2⟩:=R.iH;have n1:=Lr aNH;rw[aNI]at n1;unfold R.sA at n1;have hk:R.ab (1-(kx Qe:Rat)*(R.pi/2))<=1:=cGU n1 (by grind);have hl:R.ab (1-((0:Int):Rat)*(R.pi/2))<=1:=by
  rw[show((0:Int):Rat)=0 from rfl,cQS,R.cK];grind
 obtain⟨a,b⟩:=R.aZB hk hl;have e0:R.Sf 1 0=R.sn 1:=by
  unfold R.Sf R.rs;rw[if_pos (show(0:Int)%4=0 from rfl),show((0:Int):Rat)=0 from rfl,cQS,show(1:Rat)-0=1 by grind]
 have e1:R.Cf 1 0=R.cs 1:=by
  unfold R.Cf R.rc;rw[if_pos (show(0:Int)%4=0 from rfl),show((0:Int):Rat)=0 from rfl,cQS,show(1:Rat)-0=1 by grind]
 rw[e0]at a;rw[e1]at b;obtain⟨c,d⟩:=aZA;have h:=R.Iq (n:=80) (by decide);rw[R.aXC]at h;have hw:=aWR;have w0:(0:Rat)<=(wK:Rat):=by exact_mod_cast cHS _
 have m:=R.aG w0 (show 0<=R.pz (-80)-R.Du from by
  have:R.Du<=R.pz (-80):=h;grind)
 have hm:(wK:Rat)*R.Du<=1:=by grind
 rw[R.cK]at a b c d;have ma1:=R.aG w0 (show 0<=R.Du+(R.Sf 1 (kx Qe)-R.sn 1) by grind);have ma2:=R.aG w0 (show 0<=R.Du-(R.Sf 1 (kx Qe)-R.sn 1) by grind);have mb1:=R.aG w0 (show 0<=R.Du+(R.Cf 1 (kx Qe)-R.cs 1) by grind);have mb2:=R.aG w0 (show 0<=R.Du-(R.Cf 1 (kx Qe)-R.cs 1) by grind);rw[R.cK,R.cK];generalize (wK:Rat)=W at *;generalize R.Sf 1 (kx Qe)=A at *;generalize R.Cf 1 (kx Qe)=B at *;constructor <;> constructor <;> grind
theorem aTK{a b c s w d:Nat}{V C:Rat}(hw:0<w)(hd:d<c)(h1:a*(c+d)+w*d<=w*s)(h2:w*(s+d)+b*d<=b*c)(hC:R.ab ((c:Rat)-(w:Rat)*C)<=(d:Rat))(hS:C≠0->R.ab ((s:Rat)-(w:Rat)*(V*C))<=(d:Rat)):(a:Rat)<=(w:Rat)*V/\(w:Rat)*V<=(b:Rat):=by
 have g1:(a:Rat)*((c:Rat)+d)+w*d<=w*s:=by exact_mod_cast h1
 have g2:(w:Rat)*((s:Rat)+d)+b*d<=b*c:=by exact_mod_cast h2
 have w0:(0:Rat)<w:=by exact_mod_cast hw
 have a0:(0:Rat)<=a:=by exact_mod_cast cHS _
 have b0:(0:Rat)<=b:=by exact_mod_cast cHS _
 have d0:(d:Rat)<c:=by exact_mod_cast hd
 rw[R.cK]at hC;have c0:0<C:=by
  refine Rat.not_le.1 fun hn=>?_
  have:=R.aG (cGW w0) (show 0<=-C by grind);grind
 have hS:=hS (by grind);rw[R.cK]at hS;have q0:=Rat.mul_pos w0 c0;generalize (w:Rat)=W at *;generalize (a:Rat)=A at *;generalize (b:Rat)=B at *;generalize (c:Rat)=c at *;generalize (s:Rat)=s at *;generalize (d:Rat)=d at *;have m1:=R.aG a0 (show 0<=c+d-W*C by grind);have m2:=R.aG (cGW w0) (show 0<=W*(V*C)-(s-d) by grind);have m3:=R.aG b0 (show 0<=W*C-(c-d) by grind);have m4:=R.aG (cGW w0) (show 0<=s+d-W*(V*C) by grind);exact⟨R.cO q0 (by grind),R.cO q0 (by grind)⟩
theorem Ui:∀{fn:Int} {A B:Int},((fn=1/\A=1017275999990815458903107/\B=1017275999990815458904469)\/(fn=2/\A=653185407961314874212251/\B=653185407961314874213613)\/(fn=3/\A=1882790410002582395862843/\B=1882790410002582395872377))->R.qz (A,-80)<=vx fn Qe/\vx fn Qe<=R.qz (B,-80):=by
 intro fn A B h;obtain⟨a,b⟩:=aZK;have hw:=aWR;have w0:(0:Rat)<(wK:Rat):=by exact_mod_cast(show 0<wK by decide)
 have p0:=R.dU (-80);have key:∀{V:Rat} {A B:Int},(A:Rat)<=(wK:Rat)*V->(wK:Rat)*V<=(B:Rat)->R.qz (A,-80)<=V/\V<=R.qz (B,-80):=by
  intro V A B h1 h2;have m1:=R.aG (cGW p0) (show 0<=(wK:Rat)*V-(A:Rat) by grind);have m2:=R.aG (cGW p0) (show 0<=(B:Rat)-(wK:Rat)*V by grind);unfold R.qz;dsimp only;have e:R.pz (-80)*((wK:Rat)*V)=V:=by rw[<-cMZ,hw,cQU]
  constructor <;> grind
 rw[R.cK]at a b;have k1:((681:Nat):Rat)=681:=by norm_cast
 unfold vx R.fv;rw[aNI];rcases h with ⟨rfl,rfl,rfl⟩ |⟨rfl,rfl,rfl⟩ |⟨rfl,rfl,rfl⟩
 ·rw[if_pos rfl];refine key ?_ ?_
  ·rw[show(1017275999990815458903107:Int)=((1017275999990815458903788:Nat):Int)-((681:Nat):Int) by decide +kernel,cPV,cNB,cNB,k1];grind
  ·rw[show(1017275999990815458904469:Int)=((1017275999990815458903788:Nat):Int)+((681:Nat):Int) by decide +kernel,cOP,cNB,cNB,k1];grind
 ·rw[if_neg (by decide),if_pos rfl];refine key ?_ ?_
  ·rw[show(653185407961314874212251:Int)=((653185407961314874212932:Nat):Int)-((681:Nat):Int) by decide +kernel,cPV,cNB,cNB,k1];grind
  ·rw[show(653185407961314874213613:Int)=((653185407961314874212932:Nat):Int)+((681:Nat):Int) by decide +kernel,cOP,cNB,cNB,k1];grind
 ·rw[if_neg (by decide),if_neg (by decide)];generalize R.Sf 1 (kx Qe)=S at *;generalize R.Cf 1 (kx Qe)=C at *;obtain⟨q1,q2⟩:=aTK (a:=1882790410002582395862843) (b:=1882790410002582395872377) (c:=653185407961314874212932) (s:=1017275999990815458903788) (w:=wK) (d:=681) (V:=S/C) (C:=C) (by decide) (by decide) (by decide +kernel) (by decide +kernel) (by rw[R.cK,k1];exact⟨b.1,b.2⟩) (fun hc=>by rw[Rat.div_mul_cancel hc,R.cK,k1];exact⟨a.1,a.2⟩);refine key ?_ ?_
  ·rw[show(1882790410002582395862843:Int)=((1882790410002582395862843:Nat):Int)from rfl,cNB];exact q1
  ·rw[show(1882790410002582395872377:Int)=((1882790410002582395872377:Nat):Int)from rfl,cNB];exact q2
theorem xD{f P:Int}(hf:f=32\/f=64){s:(Int×Int)×(Int×Int)}{A B:Int×Int}(hA:0<A.1)(a:R.qz A<=R.qz s.1)(h:R.qz s.1<=R.qz s.2)(b:R.qz s.2<=R.qz B)(e1:jJ.kG f A=P)(e2:jJ.kG f B=P):pY.aKZ f s=(P,true):=by
 have s0:0<s.1.1:=kO.1 (by have:=kO.2 hA;grind);have t0:0<s.2.1:=kO.1 (by have:=kO.2 s0;grind);have m1:=tF hf hA a;have m2:=tF hf s0 h;have m3:=tF hf t0 b;unfold pY.aKZ;rw[aR,show jJ.kG f s.1=P by omega]
theorem aZG{f P A B:Int}(hf:f=32\/f=64){s:(Int×Int)×(Int×Int)}{V:Rat}(h:aKF s V 128)(hA:1<A)(hB:B<=2417851639229258349412352)(a:R.qz (A,-80)<=V)(b:V<=R.qz (B,-80))(e1:jJ.kG f (A-1,-80)=P)(e2:jJ.kG f (B+1,-80)=P):pY.aKZ f s=(P,true):=by
 have V2:V<=R.qz (1,1):=cGU b ((R.Ya (g:=-80) (by show(-80:Int)<=-80;decide) (by show(-80:Int)<=1;decide)).2 (by rw[show(1:Int)*((2^((1:Int) - -80).toNat:Nat):Int)=2417851639229258349412352 by decide +kernel,show((2^((-80:Int) - -80).toNat:Nat):Int)=1 by decide +kernel,Int.mul_one];exact hB));have V0:0<=V:=cGU (cGW (kO.2 (show 0<((A,-80):Int×Int).1 by show 0<A;omega))) a;have e:R.qz (1,1)=2:=by unfold R.qz;rw[R.aNA];grind
 rw[e]at V2;obtain⟨_,_,lo,hi,wd,_⟩:=h;rw[R.bS V0]at wd;have w1:=R.aG (cGW (R.dU (-129))) (show 0<=2-V by grind);have w2:=R.oJ (-128);have w3:=R.cY (show(-128:Int)<=-80 by decide);have wd:R.qz s.2-R.qz s.1<=R.pz (-129)*V:=wd;have w2:R.pz (-129)*2=R.pz (-128):=w2;have ea:R.qz (A-1,-80)=R.qz (A,-80)-R.pz (-80):=by
  unfold R.qz;dsimp only;rw[cPV,show((1:Int):Rat)=1 from rfl];grind
 have eb:R.qz (B+1,-80)=R.qz (B,-80)+R.pz (-80):=by
  unfold R.qz;dsimp only;rw[cOP,show((1:Int):Rat)=1 from rfl];grind
 exact xD hf (A:=(A-1,-80)) (B:=(B+1,-80)) (by show 0<A-1;omega) (by grind) (by grind) (by grind) e1 e2
theorem aNJ{fn:Int}(h:fn=1\/fn=2\/fn=3):gB.qC 64 fn Qe=0/\(dC.Ki 64 fn Qe).2=false:=by
 rcases h with rfl |rfl |rfl <;> exact⟨by decide +kernel,by decide +kernel⟩
def aTX(fn:Int):Int:=if fn=1 then 4605754516372524270 else if fn=2 then 4603041830072026764 else 4609692760021066662
theorem aFY{fn:Int}(h:fn=1\/fn=2\/fn=3):dC.zL 64 fn Qe 128=(aTX fn,true):=by
 obtain⟨he,hs⟩:=aNJ h;have hn:=Yj (by decide) he hs;obtain⟨_,hE⟩:=xG hn (show(1:Int)<=128/\(128:Int)<=66000 by decide);have ev:vZ fn (eR.xV 64 Qe)=vx fn Qe:=by
  unfold vZ eR.xV;rw[aP,if_neg (by decide)]
 rw[ev]at hE;unfold dC.zL Ak.dec;rcases h with rfl |rfl |rfl
 ·obtain⟨a,b⟩:=Ui (fn:=1) (.inl ⟨rfl,rfl,rfl⟩);exact aZG (.inr rfl) hE (by decide) (by decide) a b (by decide +kernel) (by decide +kernel)
 ·obtain⟨a,b⟩:=Ui (fn:=2) (.inr (.inl ⟨rfl,rfl,rfl⟩));exact aZG (.inr rfl) hE (by decide) (by decide) a b (by decide +kernel) (by decide +kernel)
 ·obtain⟨a,b⟩:=Ui (fn:=3) (.inr (.inr ⟨rfl,rfl,rfl⟩));exact aZG (.inr rfl) hE (by decide) (by decide) a b (by decide +kernel) (by decide +kernel)
theorem Sh{fn l:Int}(h:fn=1\/fn=2\/fn=3)(hl:128<=l/\l<=66000):IvClimb.Gz 64 fn Qe 128 l=(aTX fn,true,128):=by
 obtain⟨he,hs⟩:=aNJ h;have el:jZ.Ik 128 l=true:=decide_eq_true ⟨by decide,hl⟩;unfold IvClimb.Gz IvClimb.Qz;rw[el,if_pos rfl,he,if_neg (by decide),hs,cond_false];unfold IvClimb.Rn;rw[IvLadder.Jv hl.1];unfold IvClimb.first
 rw[aFY h,cond_true];dsimp only;rw[aFY h]
end W.Ziv
namespace W
open Go AI M
namespace Mb
def E:=mE [(26,mR.aJ),(27,dC.aJ),(28,IvClimb.aJ)] 93 [] [(7,[1,4,7,10])] [7]
def aE:=bd f24
theorem aT:Nk E aE:=nk
def J7 a b c d:=lK E f24 aE 7 [dM a,dM b,dM c,dM d]
theorem start:aF E f24 aE []=letI F:=mR.Je 64 3 4607182418800017408;letI C:=mR.Je 64 2 4607182418800017408;letI B:=mR.Je 64 1 4607182418800017408;letI A:=some [D.s (sc (bool false))];aN ((0:Int)<=(4607182418800017408:Int)/\(4607182418800017408:Int)<(18446744073709551616:Int)) (aN ((0:Int)<=(4607182418800017408:Int)/\(4607182418800017408:Int)<(18446744073709551616:Int)) (aN ((0:Int)<=(4607182418800017408:Int)/\(4607182418800017408:Int)<(18446744073709551616:Int)) (aN ((0:Int)<=(4602678819172646912:Int)/\(4602678819172646912:Int)<(18446744073709551616:Int)) (aB (!B.snd.fst) A (aB (!C.snd.fst) A (aB (!F.snd.fst) A (Mb.J7 B.fst C.fst F.fst (dC.aJS 64 4 4602678819172646912 1).fst))))))):=eJ aT
theorem Pw a b c d:J7 a b c d=letI B:=some [D.s (sc (bool false))];letI A:=IvClimb.Gz 64 1 4607182418800017408 128 128;aN ((0:Int)<=(4607182418800017408:Int)/\(4607182418800017408:Int)<(18446744073709551616:Int)) (aB (a==4605754516372524270) (aB (b==4603041830072026764) (aB (c==4609692760021066662) (aB (d==4607182418800017408) (some [D.s (sc (bool (A.fst==a&&(A.snd.fst==true&&(A.snd.snd==128&&true)))))]) B) B) B) B):=cJ aT
def sp:Prop×List D:=(True,[.s (.sc (.bool true))])
theorem spec(h:sp.1):aF E f24 aE []=some sp.2:=by
 have v:∀fn:Int,fn=1\/fn=2\/fn=3->mR.Je 64 fn 4607182418800017408=(Ziv.aTX fn,true,128):=fun fn h=>Ziv.Sh (l:=65536) h (by decide)
 have d:dC.aJS 64 4 4602678819172646912 1=(4607182418800017408,true):=by
  unfold dC.aJS;rw[if_neg (show ¬dC.aVO 64 4 4602678819172646912 1≠0 from fun h=>h (by decide +kernel)),show dC.Ki 64 4 4602678819172646912=(4607182418800017408,true) by decide +kernel,cond_true]
 refine start.trans ?_;rw[v 1 (by decide),v 2 (by decide),v 3 (by decide),d,gP (by decide),gP (by decide),gP (by decide),gP (by decide)];show J7 4605754516372524270 4603041830072026764 4609692760021066662 4607182418800017408=_;have c:IvClimb.Gz 64 1 4607182418800017408 128 128=(Ziv.aTX 1,true,128):=Ziv.Sh (l:=128) (.inl rfl) (by decide);rw[Pw,c,gP (by decide)];rfl
def aJ:dJ:=orc0  sp
theorem ok:OK 24 aJ:=(dY E aE (aA mR.ok (aA dC.ok (aA IvClimb.ok aC))) func24).bLX spec
end Mb
namespace rT
def E:=mE [] 12 [] [] []
def aE:=bd f30
theorem aT:Nk E aE:=nk
theorem start a:aF E f30 aE [D.s (sc (int i64 a))]=letI B:=int i64 0;letI A:=int u64 0;aB (a==32) (some [D.agg [sc (int u64 2147483648),sc (int i64 24),sc (int i64 (-149:Int)),sc (int i64 104),sc (int u64 2139095040),sc (int u64 2143289345)],D.s (sc (bool true))]) (aB (a==64) (some [D.agg [sc (int u64 9223372036854775808),sc (int i64 53),sc (int i64 (-1074:Int)),sc (int i64 971),sc (int u64 9218868437227405312),sc (int u64 9221120237041090561)],D.s (sc (bool true))]) (some [D.agg [sc A,sc B,sc B,sc B,sc A,sc A],D.s (sc (bool false))])):=eJ aT
def fS(f:Int):Int:=if f=32 then 2147483648 else if f=64 then 9223372036854775808 else 0
def fP(f:Int):Int:=if f=32 then 24 else if f=64 then 53 else 0
def fE(f:Int):Int:=if f=32 then -149 else if f=64 then -1074 else 0
def fG(f:Int):Int:=if f=32 then 104 else if f=64 then 971 else 0
def fI(f:Int):Int:=if f=32 then 2139095040 else if f=64 then 9218868437227405312 else 0
def fQ(f:Int):Int:=if f=32 then 2143289345 else if f=64 then 9221120237041090561 else 0
def sp(f:Int):Prop×List D:=(True,[.agg [.sc (.int .u64 (fS f)),.sc (.int .i64 (fP f)),.sc (.int .i64 (fE f)),.sc (.int .i64 (fG f)),.sc (.int .u64 (fI f)),.sc (.int .u64 (fQ f))],.s (.sc (.bool (f==32||f==64)))])
theorem spec:iS E f30 aE (pN .i64) sp:=by
 intro f _;refine(start f).trans ?_
 by_cases h1:f=32
 ·subst h1;rfl
 ·by_cases h2:f=64
  ·subst h2;rfl
  ·rw[bB h1,bB h2];simp[sp,fS,fP,fE,fG,fI,fQ,h1,h2]
def aJ:dJ:=orc1 (pN .i64) sp
theorem ok:OK 30 aJ:=(dY E aE aC func30).oU rfl spec
end rT
namespace Qc
def E:=mE [(30,rT.aJ)] 21 [] [] []
def aE:=bd f86
theorem aT:Nk E aE:=nk
theorem start a b:aF E f86 aE [D.s (sc (int i64 a)),D.s (sc (int u64 b))]=aN True (aB (!(a==32||a==64)) (some [D.s (sc (int i64 1))]) (aB (decide (rT.fS a<=u64.wrap (b.tdiv 2))) (some [D.s (sc (int i64 2))]) (some [D.s (sc (int i64 0))]))):=eJ aT
def aWC(f b:Int):Int:=bif mK.An f then(bif cR.fH f b then 0 else 2)else 1
def sp(f b:Int):Prop×List D:=(0<=b/\b<18446744073709551616,[.s (.sc (.int .i64 (aWC f b)))])
theorem spec:fN E f86 aE (pN .i64) (pN .u64) sp:=by
 intro f b h;have h:0<=b/\b<18446744073709551616:=h;refine(start f b).trans ((gP trivial).trans ?_);unfold sp aWC mK.An;rw[cJD h.1,wrap_u64 (n:=b/2)]
 by_cases h1:f=32
 ·subst h1;rw[show rT.fS 32=2147483648 from rfl]
  by_cases hc:b<4294967296
  ·have:cR.fH 32 b=true:=by unfold cR.fH;rw[decide_eq_true hc,Bool.or_true]
   rw[aL,this];rfl
  ·have:cR.fH 32 b=false:=by unfold cR.fH;rw[decide_eq_false hc];rfl
   rw[aM,this];rfl
 ·by_cases h2:f=64
  ·subst h2;rw[show rT.fS 64=9223372036854775808 from rfl,aL];rfl
  ·rw[beq_eq_false_iff_ne.2 h1,beq_eq_false_iff_ne.2 h2,decide_eq_false (show ¬(f=32\/f=64) by omega)];rfl
def aJ:dJ:=orc2 (pN .i64) (pN .u64) sp
theorem ok:OK 86 aJ:=(dY E aE (aA rT.ok aC) func86).lD rfl spec
end Qc
namespace Hm
def E:=mE [(86,Qc.aJ)] 16 [15] [] []
def aE:=bd f33
theorem aT:Nk E aE:=nk
theorem start a b c:aF E f33 aE [D.s (sc (int i64 a)),D.s (sc (int i64 b)),D.s (sc (int u64 c))]=letI A:=some [D.s (sc (int i64 1))];aB (decide (b<1)) A (aB (decide (6<b)) A (aN (0<=c/\c<18446744073709551616) (some [D.s (sc (int i64 (Qc.aWC a c)))]))):=eJ aT
def bEL(f fn b:Int):Int:=if fn<1 then 1 else if 6<fn then 1 else Qc.aWC f b
def sp(f fn b:Int):Prop×List D:=(0<=b/\b<18446744073709551616,[.s (.sc (.int .i64 (bEL f fn b)))])
theorem spec:oG E f33 aE (pN .i64) (pN .i64) (pN .u64) sp:=by
 intro f fn b h;refine(start f fn b).trans ?_;unfold sp bEL;dsimp only
 by_cases h1:fn<1
 ·rw[aM h1,if_pos h1]
 ·rw[aL h1,if_neg h1]
  by_cases h2:6<fn
  ·rw[aM h2,if_pos h2]
  ·rw[aL h2,if_neg h2,gP (show 0<=b/\b<18446744073709551616 from h)]
def aJ:dJ:=orc3 (pN .i64) (pN .i64) (pN .u64) sp
theorem ok:OK 33 aJ:=(dY E aE (aA Qc.ok aC) func33).xN rfl spec
end Hm
namespace Aa
def E:=mE [] 33 [] [] []
def aE:=bd f216
theorem aT:Nk E aE:=nk
theorem start a c d e f g b:aF E f216 aE [D.agg [sc (int u64 a),sc (int i64 c),sc (int i64 d),sc (int i64 e),sc (int u64 f),sc (int u64 g)],D.s (sc (int u64 b))]=letI A:=(↑((2:Nat)^min (i64.wrap (c-1)).toNat 64):Int);letI B:=u64.wrap ((1:Int)*A);if i64.wrap (c-1)<0 then none else if u64.wrap ((1:Int)*A)=0 then none else if u64.wrap ((1:Int)*A)=0 then none else aB (u64.wrap (b.tdiv B)==0) (some [D.s (sc (int u64 (b.tmod B))),D.s (sc (int i64 d))]) (some [D.s (sc (int u64 (u64.wrap (u64.wrap ((1:Int)*A)+b.tmod B)))),D.s (sc (int i64 (i64.wrap (i64.wrap (d+i64.wrap (u64.wrap (b.tdiv B)))-1))))]):=eJ aT
def sp(k:K6)(b:Int):Prop×List D:=(yT k/\0<=b/\b<9223372036854775808,[.s (.sc (.int .u64 (uY k b.toNat:Nat))),.s (.sc (.int .i64 (kE k+(tP k b.toNat:Nat))))])
theorem aUK:kH (kf true)=4503599627370496:=by kernel_rfl
theorem aUL:kH (kf false)=8388608:=by kernel_rfl
theorem bUU:u64.wrap (1*((2^min (i64.wrap ((kf true).2.1-1)).toNat 64:Nat):Int))=4503599627370496:=by kernel_rfl
theorem bUV:u64.wrap (1*((2^min (i64.wrap ((kf false).2.1-1)).toNat 64:Nat):Int))=8388608:=by kernel_rfl
theorem bVS:¬i64.wrap ((kf true).2.1-1)<0:=by rw[wrap_i64 (by simp[kf]) (by simp[kf])];simp[kf]
theorem bVT:¬i64.wrap ((kf false).2.1-1)<0:=by rw[wrap_i64 (by simp[kf]) (by simp[kf])];simp[kf]
theorem gen{k:K6}{h:Nat}(hh:kH k=h)(h1:1<h)(h2:h<9007199254740992)(hE:-1074<=kE k/\kE k<=0)(b:Int)(hb:0<=b)(tR:b<9223372036854775808)(hn:¬i64.wrap (k.2.1-1)<0)(hw:u64.wrap (1*((2^min (i64.wrap (k.2.1-1)).toNat 64:Nat):Int))=(h:Int)) :
  aF E f216 aE [(pG (.pair (sN .u64) (.pair (sN .i64) (.pair (sN .i64) (.pair (sN .i64) (.pair (sN .u64) (sN .u64))))))).put k,(pN .u64).put b]=some (sp k b).2:=by
 refine(start k.1 k.2.1 k.2.2.1 k.2.2.2.1 k.2.2.2.2.1 k.2.2.2.2.2 b).trans ?_;obtain⟨n,rfl⟩:=cGR hb;have hq:n/h<=n:=cKC _ _;have hm:n%h<h:=Nat.mod_lt _ (by omega);have bKF:n/h<4611686018427387904:=by
  apply cHJ;have:2*4611686018427387904<=h*4611686018427387904:=cDE _ (by omega);omega
 have e1:((n:Int)).tdiv (h:Int)=((n/h:Nat):Int):=by rw[cJD hb,Int.natCast_ediv]
 have e2:((n:Int)).tmod (h:Int)=((n%h:Nat):Int):=by rw[cJE hb,Int.natCast_emod]
 have bKZ:k.2.2.1=kE k:=rfl;rw[if_neg hn,hw,aP,aP,e1,e2,bKZ];clear e1 e2 hw hn;unfold sp uY tP;simp only[hh,cFM];have aZY:n/h=0->n%h=n:=fun hz=>cME ((Nat.div_eq_zero_iff_lt (by omega)).1 hz)
 generalize n/h=q at *;generalize n%h=r at *;rw[wrap_u64 (n:=(q:Int))]
 by_cases hz:q=0
 ·rw[bJ,if_pos hz,hz,aZY hz];simp
 ·rw[bB,if_neg hz,wrap_u64 (n:=(h:Int)+(r:Int)),wrap_i64 (n:=(q:Int)),wrap_i64 (n:=kE k+(q:Int)),wrap_i64];rw[show kE k+(q:Int)-1=kE k+((q-1:Nat):Int)from by omega,Int.natCast_add]
theorem spec:fN E f216 aE (pG (.pair (sN .u64) (.pair (sN .i64) (.pair (sN .i64) (.pair (sN .i64) (.pair (sN .u64) (sN .u64))))))) (pN .u64) sp:=by
 rintro k b ⟨hk,hb,tR⟩;rcases hk with rfl |rfl
 ·exact gen aUK (by omega) (by omega) (by simp[kE,kf]) b hb tR bVS bUU
 ·exact gen aUL (by omega) (by omega) (by simp[kE,kf]) b hb tR bVT bUV
def aJ:dJ:=orc2 (pG (.pair (sN .u64) (.pair (sN .i64) (.pair (sN .i64) (.pair (sN .i64) (.pair (sN .u64) (sN .u64))))))) (pN .u64) sp
theorem ok:OK 216 aJ:=(dY E aE aC func216).lD rfl spec
end Aa
end W
namespace W.Xc
open Go AI M W
theorem aZT{w:Bool}{n:Int}(h0:0<=n):((uY (kf w) n.toNat:Nat):Int)=dV.qM (aH.fF (bif w then 64 else 32)) n/\kE (kf w)+((tP (kf w) n.toNat:Nat):Int)=dV.tT (aH.fF (bif w then 64 else 32)) n:=by
 obtain⟨m,rfl⟩:=cGR h0;rw[cFM];unfold uY tP dV.qM dV.tT;cases w with
 |true =>
  rw[Aa.aUK,show cP.lA (aH.fF (bif true then 64 else 32))=4503599627370496 from rfl,show(aH.fF (bif true then 64 else 32)).2.2.1=-1074 from rfl,show kE (kf true)=-1074 from rfl];constructor
  ·split <;> split <;> omega
  ·split <;> omega
 |false =>
  rw[Aa.aUL,show cP.lA (aH.fF (bif false then 64 else 32))=8388608 from rfl,show(aH.fF (bif false then 64 else 32)).2.2.1=-149 from rfl,show kE (kf false)=-149 from rfl];constructor
  ·split <;> split <;> omega
  ·split <;> omega
theorem aXM{f:Int}(h:f=32\/f=64):(rT.fS f,rT.fP f,rT.fE f,rT.fG f,rT.fI f,rT.fQ f)=kf (f==64)/\f=(bif (f==64)then 64 else 32)/\yT (kf (f==64))/\(kf (f==64)).1=bR.cC (aH.fF f):=by
 rcases h with rfl |rfl
 ·exact⟨rfl,rfl,.inr rfl,rfl⟩
 ·exact⟨rfl,rfl,.inl rfl,rfl⟩
theorem aZR{f b:Int}(h:f=32\/f=64)(hb:0<=b):aQ (zs (decide ((kf (f==64)).1<=b)) (nT (kf (f==64)) (b%(kf (f==64)).1).toNat)) (kE (kf (f==64)))=cG.iW f b:=by
 obtain⟨k1,k2,k3,k4⟩:=aXM h;have hn:0<=b%bR.cC (aH.fF f):=cKT _ (by rcases Mu f with h |h <;> omega);obtain⟨m1,m2⟩:=aZT (w:=f==64) hn;rw[<-k2]at m1 m2;unfold cG.iW bI.lL bI.nA;rw[k4,<-m1,<-m2,cFM];unfold nT;generalize uY (kf (f==64)) (b%bR.cC (aH.fF f)).toNat=M;generalize tP (kf (f==64)) (b%bR.cC (aH.fF f)).toNat=X;rw[<-zE _ _ (show(0:Int)<=(X:Int) by omega),zB];congr 1;unfold zs;cases decide (bR.cC (aH.fF f)<=b) <;> simp[Int.neg_mul]
theorem Rx{z:Int}(h:z.natAbs<4294967296):yS (isNeg z,dg z.natAbs)/\(dg z.natAbs).length<=1:=by
 have:(dg z.natAbs).length<=1:=dS (by omega);exact⟨aBK (by omega),this⟩
theorem aTW{z:Int}(h:z.natAbs<4294967296)(h0:0<z):yS (isNeg z,dg z.natAbs)/\isNeg z=false/\(dg z.natAbs).length=1:=by
 have h1:=Rx h;have h2:(dg z.natAbs).length≠0:=fun hh=>by have:=gJ.1 hh;omega
 exact⟨h1.1,gH.2 (by omega),by omega⟩
end W.Xc
namespace W
open Go AI M
namespace aSC
def E:=mE [] 14 [] [] []
def aE:=bd f128
theorem aT:Nk E aE:=nk
theorem start a c d e f g b:aF E f128 aE [D.agg [sc (int u64 a),sc (int i64 c),sc (int i64 d),sc (int i64 e),sc (int u64 f),sc (int u64 g)],D.s (sc (int u64 b))]=if a=0 then none else some [D.s (sc (bool (decide (a<=b)))),D.s (sc (int u64 (b.tmod a)))]:=eJ aT
def sp(k:K6)(b:Int):Prop×List D:=(yT k/\0<=b,[.s (.sc (.bool (decide (k.1<=b)))),.s (.sc (.int .u64 (b%k.1)))])
theorem spec:fN E f128 aE (pG (.pair (sN .u64) (.pair (sN .i64) (.pair (sN .i64) (.pair (sN .i64) (.pair (sN .u64) (sN .u64))))))) (pN .u64) sp:=by
 intro k b h;refine(start k.1 k.2.1 k.2.2.1 k.2.2.2.1 k.2.2.2.2.1 k.2.2.2.2.2 b).trans ?_;obtain⟨hk,hb⟩:=h;rw[if_neg (by rcases hk with rfl |rfl <;> simp[kf]),cJE hb];rfl
def aJ:dJ:=orc2 (pG (.pair (sN .u64) (.pair (sN .i64) (.pair (sN .i64) (.pair (sN .i64) (.pair (sN .u64) (sN .u64))))))) (pN .u64) sp
theorem ok:OK 128 aJ:=(dY E aE aC func128).lD rfl spec
end aSC
namespace Norm
def E:=mE [] 27 [] [(2,[0,3]),(4,[0,3])] [4]
def aE:=bd f218
theorem aT:Nk E aE:=nk
def L2 a b:=qA E f218 aE 2 [qL a,bP b]
def J4 a b:=lK E f218 aE 4 [qL a,bP b]
theorem start a:aF E f218 aE [D.s (ints u32 a)]=Norm.L2 a (a.length:Int):=eJ aT
theorem mG a b:L2 a b=aB (decide (0<b)) (if 0<=i64.wrap (b-1)/\i64.wrap (b-1)<(a.length:Int)then aB (a.getD (i64.wrap (b-1)).toNat 0==(0:Int)) (Norm.L2 a (i64.wrap (b-1))) (Norm.J4 a b)else none) (Norm.J4 a b):=lJ aT
theorem Eh a b:J4 a b=letI A:=cHL 0 (cHK b.toNat a);if 0<=b/\b<=b/\b<=8796093022208 then if(0:Int)<=(0:Int)/\0<=b/\b<=(a.length:Int)then some [D.own 71 u32 (cHK b.toNat A ++ cHL (min A.length b.toNat) (cDS b.toNat (0:Int)))]else none else none:=cJ aT
theorem J{xs:List Int}{n:Nat}(h:n<=xs.length)(hl:xs.length<=4398046511104):J4 xs n=some [D.own uF .u32 (xs.take n)]:=by
 rw[Eh,aR,aR];simp only[cFM];rw[aQS h]
theorem L{xs:List Int}(hd:cA xs)(hl:xs.length<=4398046511104):∀n:Nat,n<=xs.length->L2 xs n=some [D.own uF .u32 (dg (val (xs.take n)))]
 |0,h=>by
  rw[mG];simp only[aB,Int.natCast_zero,Int.lt_irrefl,decide_false,cond_false];rw[show((0:Int))=((0:Nat):Int)from rfl,J (by omega) hl];simp[val,cD]
 |n+1,h=>by
  rw[mG];have e:i64.wrap (((n+1:Nat):Int)-1)=(n:Int):=by rw[wrap_i64];omega
  rw[e];have e2:decide ((0:Int)<((n+1:Nat):Int))=true   := by simp
  simp only[aB,e2,cond_true,cFM];rw[aR];cases hz:xs.getD n 0==0 with
  |true =>
   have hz:=eq_of_beq hz;simp only[cond_true];rw[L hd hl n (by omega),mH (by omega),hz];simp
  |false =>
   have hz:xs.getD n 0≠0:=by simpa using hz
   simp only[cond_false];rw[J h hl];have:cN (xs.take (n+1)):=Bd (hd.take _) fun d hg=>by
    rw[getLast_take (by omega)]at hg;cases hg;exact hz
   rw[<-this]
def sp(a:List Int):Prop×List D:=(cA a/\a.length<=4398046511104,[.own uF .u32 (dg (val a))])
theorem spec:iS E f218 aE (pI .u32) sp:=by
 rintro a ⟨hd,hl⟩;refine(start a).trans ?_;rw[L hd hl a.length (cBP _),cIK];rfl
def aJ:dJ:=orc1 (pI .u32) sp
theorem ok:OK 218 aJ:=(dY E aE aC func218).oU rfl spec
end Norm
namespace Bz
def E:=mE [(218,Norm.aJ)] 11 [10] [] []
def aE:=bd f185
theorem aT:Nk E aE:=nk
theorem start a:aF E f185 aE [D.s (sc (int u64 a))]=letI B:=a/4294967296;letI A:=fC BinOp.and u64 a 4294967295;aN (cA [u32.wrap A,u32.wrap B]/\[u32.wrap A,u32.wrap B].length<=4398046511104) (some [D.own 71 u32 (dg (val [u32.wrap A,u32.wrap B]))]):=eJ aT
def sp(w:Int):Prop×List D:=(0<=w/\w<18446744073709551616,[.own uF .u32 (dg w.toNat)])
theorem spec:iS E f185 aE (pN .u64) sp:=by
 rintro w ⟨h,h'⟩;refine(start w).trans ?_;rw[oO h h',wrap_u32,wrap_u32,aGR]
 ·unfold sp;congr 4;simp only[val];omega
 ·refine⟨?_,by simp⟩;rw[mB,mB];exact⟨by omega,by omega,mN⟩
def aJ:dJ:=orc1 (pN .u64) sp
theorem ok:OK 185 aJ:=(dY E aE (aA Norm.ok aC) func185).oU rfl spec
end Bz
namespace Cl
def E:=mE [(218,Norm.aJ)] 46 [45] [(4,[0,1,7,8,9])] []
def aE:=bd f245
theorem aT:Nk E aE:=nk
def L4 a (b:Int) (c:Nat) (d:List Int) f g:=qA E f245 aE 4 [qL a,vA (sc (int u32 b)),(A.v (V.one (L.buf 2 c)),some { e:=(71:Nat),cont:=rJ.ints u32 d }),dM f,bP g]
theorem start a b c:aF E f245 aE [D.s (ints u32 a),D.s (sc (int u32 b)),D.s (sc (int u32 c))]=if(0:Int)<=(0:Int)/\0<=i64.wrap ((a.length:Int)+(1:Int))/\i64.wrap ((a.length:Int)+(1:Int))<=8796093022208 then Cl.L4 a b 0 (cDS 0 (0:Int)) (u64.wrap c) 0 else none:=eJ aT
theorem nR a b c d e f:L4 a b c d e f=letI C:=d ++ [u32.wrap e];letI B:=e+u64.wrap (u64.wrap (a.getD f.toNat 0)*u64.wrap b);letI A:=fC BinOp.and u64 (u64.wrap B) 4294967295;letI F:=d.length+[u32.wrap A].length;aB (decide (f<(a.length:Int))) (if 0<=f/\f<(a.length:Int)then if(0:Nat)<[u32.wrap A].length/\(F:Int)<=(8796093022208:Int)then Cl.L4 a b F (d ++ [u32.wrap A]) (u64.wrap B/4294967296) (i64.wrap (f+1))else none else none) (if(0:Nat)<[u32.wrap e].length/\(↑(d.length+[u32.wrap e].length):Int)<=(8796093022208:Int)then aN (cA C/\C.length<=4398046511104) (some [D.own 71 u32 (dg (val C))])else none):=lJ aT
theorem L{a:List Int}{w:Int}(ha:cA a)(aXT:a.length<=1099511627776)(hw:0<=w)(aXO:w<4294967296){r:Nat}:∀(d i:Nat) (xs:List Int) (c:Int),cA xs->xs.length=i->0<=c->c<4294967296 ->
  i+d=a.length->val xs+4294967296^i*c.toNat=val (a.take i)*w.toNat+r ->
  L4 a w i xs c i=some [D.own uF .u32 (dg (val a*w.toNat+r))]:=by
 intro d
 induction d with
 |zero =>
  intro i xs c hx Ev h0 h1 hd hv;rw[nR,aL,if_pos ⟨by simp,by simp;omega⟩,wrap_u32,cLB h0 h1,gP ⟨mA hx ⟨h0,h1⟩,by simp;omega⟩,lT,Ev,hv,bW (by omega)]
 |succ d ih =>
  intro i xs c hx Ev h0 h1 hd hv;have g1:=ha.get i;have e':((i:Int)).toNat=i:=cFM i;have hm:a.getD i 0*w<=4294967295*4294967295:=by
   have h1:a.getD i 0*w<=4294967295*w:=cDZ (by omega) hw;have h2:(4294967295:Int)*w<=4294967295*4294967295:=Int.mul_le_mul_of_nonneg_left (by omega) (by omega);omega
  have Sp:0<=a.getD i 0*w:=Int.mul_nonneg g1.1 hw;rw[nR,aM,aR,e',wrap_u64 (n:=a.getD i 0),wrap_u64 (n:=w),wrap_u64 (n:=a.getD i 0*w),wrap_u64,
   oO (by omega) (by omega),if_pos ⟨by simp,by simp;omega⟩,wrap_u32,Int.emod_emod_of_dvd _ (Int.dvd_refl _),wrap_i64,Ev]
  show L4 a w (i+1) _ _ ((i+1:Nat):Int)=_;refine ih (i+1) _ _ (mA hx (by omega)) (by simp[Ev]) (by omega) (by omega) (by omega) ?_;rw[lT,bM,Ev,cGO,cGS,Nat.add_mul];have et:(a.getD i 0*w).toNat=(a.getD i 0).toNat*w.toNat:=Int.toNat_mul g1.1 hw;have e:4294967296*((c+a.getD i 0*w)/4294967296).toNat+((c+a.getD i 0*w)%4294967296).toNat=c.toNat+(a.getD i 0).toNat*w.toNat:=by rw[<-et];omega
  generalize a.getD i 0=x at *;generalize 4294967296^i=B at *;have e2:B*(4294967296*((c+x*w)/4294967296).toNat)+B*((c+x*w)%4294967296).toNat=B*c.toNat+B*(x.toNat*w.toNat):=by
   rw[<-cGQ,e,cGQ]
  rw[cGS];omega
def sp(a:List Int)(w c:Int):Prop×List D:=(cA a/\a.length<=1099511627776/\(0<=w/\w<4294967296)/\(0<=c/\c<4294967296),[.own uF .u32 (dg (val a*w.toNat+c.toNat))])
theorem spec:oG E f245 aE (pI .u32) (pN .u32) (pN .u32) sp:=by
 rintro a w c ⟨ha,h1,hw,hc⟩;refine(start a w c).trans ?_;rw[wrap_i64,if_pos ⟨by omega,by omega,by omega⟩,wrap_u64];exact L ha h1 hw.1 hw.2 a.length 0 [] c mN rfl hc.1 hc.2 (by omega) (by simp[val])
def aJ:dJ:=orc3 (pI .u32) (pN .u32) (pN .u32) sp
theorem ok:OK 245 aJ:=(dY E aE (aA Norm.ok aC) func245).xN rfl spec
end Cl
namespace bEN
def E:=mE [(218,Norm.aJ),(245,Cl.aJ)] 32 [14,31] [(3,[0,1])] [3]
def aE:=bd f215
theorem aT:Nk E aE:=nk
def J3 a b:=lK E f215 aE 3 [qL a,bP b]
theorem start a b:aF E f215 aE [D.s (ints u32 a),D.s (sc (int i64 b))]=letI A:=aN (cA a/\a.length<=4398046511104) (some [D.own 71 u32 (dg (val a))]);aB (decide (b<=0)) A (aB ((a.length:Int)==(0:Int)) A (bEN.J3 a b)):=eJ aT
theorem iB a b:J3 a b=letI G:=b.tdiv 32;letI F:=i64.wrap (i64.wrap G+(a.length:Int))+1;letI C:=(↑((2:Nat)^min (b.tmod 32).toNat 32):Int);letI A:=val a*(u32.wrap ((1:Int)*C)).toNat+0;letI B:=cDS (i64.wrap G).toNat (0:Int) ++ dg A;if 0<=i64.wrap G/\i64.wrap G<=i64.wrap F/\i64.wrap F<=8796093022208 then if b.tmod 32<(0:Int)then none else aN (cA a/\a.length<=1099511627776/\(0<=u32.wrap ((1:Int)*C)/\u32.wrap ((1:Int)*C)<4294967296)/\(0:Int)<=(0:Int)/\(0:Int)<(4294967296:Int)) (if 0<(dg A).length/\(↑((cDS (i64.wrap G).toNat (0:Int)).length+(dg A).length):Int)<=(8796093022208:Int)then aN (cA B/\B.length<=4398046511104) (some [D.own 71 u32 (dg (val B))])else none)else none:=cJ aT
def sp(a:List Int)(n:Int):Prop×List D:=(cN a/\a.length<=1099511627776/\n<=1099511627776,[.own uF .u32 (dg (val a*2^n.toNat))])
theorem spec:fN E f215 aE (pI .u32) (pN .i64) sp:=by
 rintro a n ⟨ha,h1,h2⟩;refine(start a n).trans ?_;show _=some [D.own uF .u32 (dg (val a*2^n.toNat))]
 by_cases hn:n<=0
 ·rw[aM hn,gP ⟨ha.jA,by omega⟩,show n.toNat=0 from by omega,cLQ,Nat.mul_one]
 ·rw[aL hn]
  by_cases hz:a.length=0
  ·have hv:=(cZ ha).1 hz;rw[bJ,gP ⟨ha.jA,by omega⟩,hv,Nat.zero_mul]
  ·have hv:val a≠0:=fun h=>hz ((cZ ha).2 h)
   rw[bB,iB,aMC (by omega),aLX (by omega),wrap_i64 (n:=n/32),wrap_i64 (n:=n/32+a.length),wrap_i64,if_pos ⟨by omega,by omega,by omega⟩,aP,
    Xt (by omega) (by omega),cFM]
   have e1:(n%32).toNat=n.toNat%32:=by omega
   have e2:(n/32).toNat=n.toNat/32:=by omega
   have hp:2^(n.toNat%32)<2^32:=cII (by omega) (by omega);have aCM:0<2^(n.toNat%32):=dA;rw[e1,e2,Nat.add_zero];have hm:val a*2^(n.toNat%32)≠0:=Nat.mul_ne_zero hv (by omega);have bDV:(dg (val a*2^(n.toNat%32))).length<=a.length+1:=by
    apply dS;rw[cGO];exact Nat.mul_lt_mul_of_lt_of_lt (dT ha.jA) hp
   have Sp:(dg (val a*2^(n.toNat%32))).length≠0:=fun h=>hm (gJ.1 h)
   rw[gP ⟨ha.jA,h1,⟨by omega,by generalize 2^(n.toNat%32)=p at *;omega⟩,by omega,by omega⟩,if_pos ⟨by omega,by rw[cOY];omega⟩,
    gP ⟨qD.2 ⟨jD _,gG _⟩,by rw[cCT,cOY];omega⟩,jW,jB,cOY,bD,cBR,Cy n.toNat,Nat.mul_left_comm]
def aJ:dJ:=orc2 (pI .u32) (pN .i64) sp
theorem ok:OK 215 aJ:=(dY E aE (aA Norm.ok (aA Cl.ok aC)) func215).lD rfl spec
end bEN
namespace bCU
def E:=mE [(185,Bz.aJ),(215,bEN.aJ)] 6 [5] [] []
def aE:=bd f176
theorem aT:Nk E aE:=nk
theorem start a:aF E f176 aE [D.s (sc (int i64 a))]=aN ((0:Int)<=(1:Int)/\(1:Int)<(18446744073709551616:Int)) (aN (cN (dg 1)/\(dg 1).length<=1099511627776/\a<=1099511627776) (some [D.own 71 u32 (dg (val (dg 1)*(2:Nat)^a.toNat))])):=eJ aT
def sp(n:Int):Prop×List D:=(n<=1099511627776,[.own uF .u32 (dg (2^n.toNat))])
theorem spec:iS E f176 aE (pN .i64) sp:=by
 intro n h;refine(start n).trans ?_;rw[gP ⟨by omega,by omega⟩,gP ⟨aY _,by simp[dg],h⟩,bD];simp[sp]
def aJ:dJ:=orc1 (pN .i64) sp
theorem ok:OK 176 aJ:=(dY E aE (aA Bz.ok (aA bEN.ok aC)) func176).oU rfl spec
end bCU
namespace aSD
def E:=mE [] 25 [] [(5,[3,4])] []
def aE:=bd f214
theorem aT:Nk E aE:=nk
def L5 a (b:Int):=qA E f214 aE 5 [bP a,vA (sc (int u32 b))]
theorem start a:aF E f214 aE [D.s (ints u32 a)]=letI A:=(a.length:Int);letI B:=A-(1:Int);aB (A==(0:Int)) (some [D.s (sc (int i64 0))]) (if 0<=i64.wrap B/\i64.wrap B<A then aSD.L5 (i64.wrap ((32:Int)*i64.wrap B)) (a.getD (i64.wrap B).toNat 0)else none):=eJ aT
theorem Pu a b:L5 a b=aB (decide (0<b)) (aSD.L5 (i64.wrap (a+1)) (u32.wrap (b.tdiv 2))) (some [D.s (sc (int i64 a))]):=lJ aT
theorem L:∀(m:Nat) (x w:Int),0<=w->w<2^m->m<=64->w<4294967296->0<=x->x<=4611686018427387904-m->L5 x w=some [D.s (.sc (.int .i64 (x+(bl w.toNat:Nat))))]:=by
 intro m
 induction m with
 |zero =>
  intro x w h0 h1 _ _ hx Af;have:w=0:=by omega
  subst this;rw[Pu,aL];simp[bl]
 |succ m ih =>
  intro x w h0 h1 hm hw hx Af;rw[Pu]
  by_cases hz:w=0
  ·subst hz;rw[aL];simp[bl]
  ·have hp:(2:Int)^(m+1)=2*2^m:=by rw[Int.pow_succ];omega
   rw[hp]at h1;rw[aM,cJD h0,aHR (by omega),wrap_i64,ih _ _ (by omega) (by omega) (by omega) (by omega) (by omega) (by omega),aWF (n:=w.toNat) (by omega),show(w/2).toNat=w.toNat/2 from by omega];congr 5;omega
def sp(a:List Int):Prop×List D:=(cN a/\a.length<=4398046511104,[.s (.sc (.int .i64 (bl (val a):Nat)))])
theorem spec:iS E f214 aE (pI .u32) sp:=by
 rintro a ⟨ha,h1⟩;refine(start a).trans ?_;show _=some [D.s (.sc (.int .i64 (bl (val a):Nat)))]
 by_cases hz:a.length=0
 ·rw[bJ,(cZ ha).1 hz];rfl
 ·have hd:=ha.jA.get (a.length-1);have hv:=bM (a:=a) (a.length-1);rw[show a.length-1+1=a.length from by omega,bW (cBP _)]at hv;have ht:a.getD (a.length-1) 0≠0:=by
   have:=getLast_take (a:=a) (n:=a.length-1) (by omega);rw[show a.length-1+1=a.length from by omega,cIK]at this;exact ha.top this
  have e:((a.length:Int)-1).toNat=a.length-1:=by omega
  rw[bB,wrap_i64 (n:=(a.length:Int)-1),aR,e,wrap_i64,
   L 32 _ _ hd.1 (by omega) (by omega) hd.2 (by omega) (by omega),hv,Jw,Bw (by rw[<-Jw];exact iG ha.jA _) (by omega)]
  congr 5;omega
def aJ:dJ:=orc1 (pI .u32) sp
theorem ok:OK 214 aJ:=(dY E aE aC func214).oU rfl spec
end aSD
namespace To
def E:=mE [(218,Norm.aJ)] 44 [] [(4,[3,4,5])] []
def aE:=bd f224
theorem aT:Nk E aE:=nk
def L4 a (b:Nat) (c:List Int) d:=qA E f224 aE 4 [qL a,Dm 1 b 22 c,bP d]
theorem start a:aF E f224 aE [D.s (ints u32 a)]=letI A:=i64.wrap ((↑(dg (val a)).length:Int).tdiv 2)+1;aN (cA a/\a.length<=4398046511104) (if(0:Int)<=(0:Int)/\0<=i64.wrap A/\i64.wrap A<=8796093022208 then To.L4 (dg (val a)) 0 (cDS 0 (0:Int)) 0 else none):=eJ aT
theorem nR a b c d:L4 a b c d=letI C:=(a.length:Int);letI B:=a.getD d.toNat 0;letI G:=c.length+[u64.wrap B].length;letI A:=u64.wrap B+u64.wrap (u64.wrap (a.getD (i64.wrap (d+1)).toNat 0)*4294967296);letI F:=c.length+[u64.wrap A].length;aB (decide (d<C)) (if 0<=d/\d<C then aB (decide (i64.wrap (d+1)<C)) (if 0<=i64.wrap (d+1)/\i64.wrap (d+1)<C then if(0:Nat)<[u64.wrap A].length/\(F:Int)<=(8796093022208:Int)then To.L4 a F (c ++ [u64.wrap A]) (i64.wrap (d+2))else none else none) (if(0:Nat)<[u64.wrap B].length/\(G:Int)<=(8796093022208:Int)then To.L4 a G (c ++ [u64.wrap B]) (i64.wrap (d+2))else none)else none) (some [D.own 22 u64 c]):=lJ aT
theorem L{d:List Int}(hd:cN d)(hl:d.length<=4398046511104):∀(k i:Nat) (xs:List Int),i+k>=d.length->i<=d.length+1->xs.length<=i ->
  L4 d xs.length xs i=some [D.own gX .u64 (xs ++ M6.dg (val (d.drop i)))]:=by
 intro k
 induction k using Nat.strongRecOn with
 |_ k ih =>
  intro i xs hk hi Ev;rw[nR]
  by_cases h:i<d.length
  ·have g0:=hd.jA.get i;have g1:=hd.jA.get (i+1);have e':((i:Int)).toNat=i:=cFM i;have e1:((i:Int)+1).toNat=i+1:=by omega
   have hz:val (d.drop i)≠0:=by
    intro h0;have hn:cN (d.drop i):=Bd (hd.jA.drop i) fun e he=>hd.top (by
     rw[List.getLast?_drop]at he;rw[aP]at he;exact he)
    have:=(cZ hn).2 h0;rw[cFP]at this;omega
   have ev:=iK (a:=d) i;have ev1:val (d.drop (i+1))=(d.getD (i+1) 0).toNat+4294967296*val (d.drop (i+2)):=iK (i+1);have key:M6.dg (val (d.drop i))=(d.getD i 0+d.getD (i+1) 0*4294967296) :: M6.dg (val (d.drop (i+2))):=by
    rw[M6.oL hz];congr 1
    ·omega
    ·congr 1;omega
   rw[aM,aR,e',wrap_i64 (n:=(i:Int)+1),wrap_i64 (n:=(i:Int)+2),e1,wrap_u64 (n:=d.getD i 0),wrap_u64 (n:=d.getD (i+1) 0),
    wrap_u64 (n:=d.getD (i+1) 0*4294967296),wrap_u64]
   by_cases h1:i+1<d.length
   ·rw[aM,aR,if_pos ⟨by simp,by simp;omega⟩];have:=ih (k-2) (by omega) (i+2) (xs ++ [d.getD i 0+d.getD (i+1) 0*4294967296]) (by omega) (by omega) (by simp;omega);simp only[cCT,cFA,cFB]at this ⊢;rw[show((i:Int)+2)=((i+2:Nat):Int)from by omega,this,key,cDK];rfl
   ·have bKO:d.getD (i+1) 0=0:=getD_none (by omega);rw[aL,if_pos ⟨by simp,by simp;omega⟩];have:=ih (k-1) (by omega) (i+2) (xs ++ [d.getD i 0]) (by omega) (by omega) (by simp;omega);simp only[cCT,cFA,cFB]at this ⊢;rw[show((i:Int)+2)=((i+2:Nat):Int)from by omega,this,key,bKO,Int.zero_mul,Int.add_zero,cDK];rfl
  ·rw[aL,List.drop_eq_nil_of_le (by omega)];simp[val,M6.cD]
def sp(a:List Int):Prop×List D:=(cA a/\a.length<=1099511627776,[.own gX .u64 (M6.dg (val a))])
theorem spec:iS E f224 aE (pI .u32) sp:=by
 rintro a ⟨ha,h1⟩;refine(start a).trans ?_;have:=tG ha;rw[gP ⟨ha,by omega⟩,cJD (by omega),wrap_i64 (n:=((dg (val a)).length:Int)/2) (by omega) (by omega),wrap_i64,if_pos ⟨by omega,by omega,by omega⟩];have:=L (aY (val a)) (by omega) (dg (val a)).length 0 [] (by omega) (by omega) (by simp);simp only[cFB,cHW,cFS,bD]at this;exact this
def aJ:dJ:=orc1 (pI .u32) sp
theorem ok:OK 224 aJ:=(dY E aE (aA Norm.ok aC) func224).oU rfl spec
end To
namespace Fits
def E:=mE [(224,To.aJ)] 16 [] [] []
def aE:=bd f186
theorem aT:Nk E aE:=nk
theorem start a:aF E f186 aE [D.s (ints u32 a)]=letI A:=(↑(M6.dg (val a)).length:Int);aN (cA a/\a.length<=1099511627776) (aB (A==(0:Int)) (some [D.s (sc (int u64 0)),D.s (sc (bool true))]) (aB (A==(1:Int)) (if(0:Int)<=(0:Int)/\0<A then some [D.s (sc (int u64 ((M6.dg (val a)).getD 0 0))),D.s (sc (bool true))]else none) (some [D.s (sc (int u64 0)),D.s (sc (bool false))]))):=eJ aT
def sp(a:List Int):Prop×List D:=(cA a/\a.length<=1099511627776,[.s (.sc (.int .u64 ((if val a<18446744073709551616 then val a else 0:Nat):Int))),.s (.sc (.bool (decide (val a<18446744073709551616))))])
theorem spec:iS E f186 aE (pI .u32) sp:=by
 intro a h;refine(start a).trans ?_;refine(gP h).trans ?_;unfold sp;simp only
 by_cases h0:val a=0
 ·rw[h0,M6.cD];rfl
 ·by_cases h1:val a<18446744073709551616
  ·rw[if_pos h1,decide_eq_true h1,M6.oL h0,cME h1,cHM h1,M6.cD];rfl
  ·rw[if_neg h1,decide_eq_false h1];have hl:1<(M6.dg (val a)).length:=by
    rw[M6.oL h0,cFA];have:(M6.dg (val a/18446744073709551616)).length≠0:=fun hh=>by have:=M6.gJ.1 hh;omega
    omega
   rw[bB,bB];rfl
def aJ:dJ:=orc1 (pI .u32) sp
theorem ok:OK 186 aJ:=(dY E aE (aA To.ok aC) func186).oU rfl spec
end Fits
namespace wX
def E:=mE [(218,Norm.aJ),(185,Bz.aJ)] 46 [11,43] [(6,[0,1,6,7,8])] []
def aE:=bd f219
theorem aT:Nk E aE:=nk
def L6 a (b:Int) (c:Nat) (d:List Int) f g:=qA E f219 aE 6 [qL a,vA (sc (int u32 b)),(A.v (V.one (L.buf 2 c)),some { e:=(71:Nat),cont:=rJ.ints u32 d }),dM f,bP g]
theorem start a b:aF E f219 aE [D.s (ints u32 a),D.s (sc (int u32 b))]=letI A:=(a.length:Int);aB (b==0) (aN ((0:Int)<=(0:Int)/\(0:Int)<(18446744073709551616:Int)) (some [D.own 71 u32 (dg 0),D.s (sc (int u32 0))])) (if 0<=A/\A<=A/\A<=(8796093022208:Int)then wX.L6 a b A.toNat (cDS A.toNat (0:Int)) 0 (i64.wrap (A-(1:Int)))else none):=eJ aT
theorem vI a b c d e f:L6 a b c d e f=letI A:=u64.wrap (u64.wrap (e*4294967296)+u64.wrap (a.getD f.toNat 0));aB (decide (0<=f)) (if 0<=f/\f<(a.length:Int)then if u64.wrap b=0 then none else if 0<=f/\f<(c:Int)then if u64.wrap b=0 then none else wX.L6 a b c (d.set f.toNat (u32.wrap (u64.wrap (A.tdiv (u64.wrap b))))) (A.tmod (u64.wrap b)) (i64.wrap (f-1))else none else none) (aN (cA d/\d.length<=4398046511104) (some [D.own 71 u32 (dg (val d)),D.s (sc (int u32 (u32.wrap e)))])):=lJ aT
theorem L{a:List Int}{w:Int}(ha:cA a)(aXT:a.length<=1099511627776)(hw:0<w)(aXO:w<4294967296):∀(n:Nat) (q:List Int) (l:Int),cA q->q.length=a.length->0<=l->l<w->n<=a.length ->
  L6 a w a.length q l ((n:Int)-1)=some [D.own uF .u32 (dg ((l.toNat*4294967296^n+val (a.take n))/w.toNat+4294967296^n*val (q.drop n))),D.s (.sc (.int .u32 (((l.toNat*4294967296^n+val (a.take n))%w.toNat:Nat):Int)))]:=by
 intro n
 induction n with
 |zero =>
  intro q l hq bKB h0 h1 hn;rw[vI,aL,gP ⟨hq,by omega⟩,wrap_u32];simp only[cLQ,Nat.mul_one,List.take_zero,val,Nat.add_zero,cHW,Nat.one_mul];rw[cHM (by omega),cBR,cME (by omega)];have e0:l%4294967296=(l.toNat:Int):=by omega
  rw[e0]
 |succ n ih =>
  intro q l hq bKB h0 h1 hn;have g1:=ha.get n;have e:(((n+1:Nat):Int)-1)=(n:Int):=by omega
  have e':((n:Int)).toNat=n:=cFM n;have hu:wrap_u64 (n:=w)=wrap_u64 (n:=w):=rfl;rw[e,vI,aM,aR,e',wrap_u64 (n:=w),aP,aR,aP,wrap_u64 (n:=l*4294967296),
   wrap_u64 (n:=a.getD n 0),wrap_u64 (n:=l*4294967296+a.getD n 0),wrap_i64]
  have Ny:0<=l*4294967296+a.getD n 0:=by omega
  rw[cJD Ny,cJE Ny];have bSN:(l*4294967296+a.getD n 0)/w<4294967296:=Int.ediv_lt_of_lt_mul hw (by
   have:(l+1)*4294967296<=w*4294967296:=cDZ (by omega) (by omega);omega)
  have aSM:0<=(l*4294967296+a.getD n 0)/w:=Int.ediv_nonneg Ny (by omega);have Sp:=cKT (l*4294967296+a.getD n 0) (show w≠0 by omega);have bKH:=cKU (l*4294967296+a.getD n 0) hw;rw[wrap_u64 aSM (by omega),wrap_u32,cLB aSM bSN,ih _ _ (nH hq ⟨aSM,bSN⟩) (by simpa using bKB) Sp bKH (by omega),qP (by omega),bM];have bJU:0<w.toNat:=by omega
  have d1:((l*4294967296+a.getD n 0)/w).toNat=(l.toNat*4294967296+(a.getD n 0).toNat)/w.toNat:=by
   rw[Xj Ny (by omega)];congr 1;omega
  have d2:((l*4294967296+a.getD n 0)%w).toNat=(l.toNat*4294967296+(a.getD n 0).toNat)%w.toNat:=by
   rw[Xi Ny (by omega)];congr 1;omega
  rw[d1,d2,cGO];generalize (a.getD n 0).toNat=x at *;generalize l.toNat=l at *;generalize val (a.take n)=v at *;generalize 4294967296^n=B at *;have e3:l*(B*4294967296)+(v+B*x)=(l*4294967296+x)*B+v:=by
   rw[Nat.add_mul,Nat.mul_comm B 4294967296,<-cGS,Nat.mul_comm B x];omega
  rw[e3,aQF bJU,aNS (l:=l) (B:=4294967296) (d:=x),cGQ,cGS,Nat.add_assoc]
def sp(a:List Int)(w:Int):Prop×List D:=(cA a/\a.length<=1099511627776/\(0<w/\w<4294967296),[.own uF .u32 (dg (val a/w.toNat)),.s (.sc (.int .u32 ((val a%w.toNat:Nat):Int)))])
theorem spec:fN E f219 aE (pI .u32) (pN .u32) sp:=by
 rintro a w ⟨ha,h1,hw⟩;refine(start a w).trans ?_;rw[bB,if_pos ⟨by omega,by omega,by omega⟩,wrap_i64,cFM,L ha h1 hw.1 hw.2 a.length _ 0 (jD _) (by simp) (by omega) (by omega) (cBP _)];simp[sp,val]
def aJ:dJ:=orc2 (pI .u32) (pN .u32) sp
theorem ok:OK 219 aJ:=(dY E aE (aA Norm.ok (aA Bz.ok aC)) func219).lD rfl spec
end wX
namespace bJC
def E:=mE [(218,Norm.aJ),(185,Bz.aJ),(219,wX.aJ)] 29 [10,16,25] [] []
def aE:=bd f180
theorem aT:Nk E aE:=nk
theorem start a b:aF E f180 aE [D.s (ints u32 a),D.s (sc (int i64 b))]=letI F:=b.tdiv 32;letI C:=(a.length:Int);letI B:=(↑((2:Nat)^min (b.tmod 32).toNat 32):Int);letI A:=cHL (i64.wrap F).toNat (cHK C.toNat a);aB (decide (b<=0)) (aN (cA a/\a.length<=4398046511104) (some [D.own 71 u32 (dg (val a))])) (aB (decide (C<=i64.wrap F)) (aN ((0:Int)<=(0:Int)/\(0:Int)<(18446744073709551616:Int)) (some [D.own 71 u32 (dg 0)])) (if 0<=i64.wrap F/\i64.wrap F<=C/\C<=C then if b.tmod 32<(0:Int)then none else aN (cA A/\A.length<=1099511627776/\0<u32.wrap ((1:Int)*B)/\u32.wrap ((1:Int)*B)<4294967296) (some [D.own 71 u32 (dg (val A/(u32.wrap ((1:Int)*B)).toNat))])else none)):=eJ aT
def sp(a:List Int)(n:Int):Prop×List D:=(cA a/\a.length<=1099511627776/\n<9223372036854775808,[.own uF .u32 (dg (val a/2^n.toNat))])
theorem spec:fN E f180 aE (pI .u32) (pN .i64) sp:=by
 rintro a n ⟨ha,h1,h2⟩;refine(start a n).trans ?_;show _=some [D.own uF .u32 (dg (val a/2^n.toNat))]
 by_cases hn:n<=0
 ·rw[aM hn,gP ⟨ha,by omega⟩,show n.toNat=0 from by omega,cLQ,Nat.div_one]
 ·have e1:(n%32).toNat=n.toNat%32:=by omega
  have e2:(n/32).toNat=n.toNat/32:=by omega
  rw[aL hn,aMC (by omega),aLX (by omega),wrap_i64 (n:=n/32)]
  by_cases hz:(a.length:Int)<=n/32
  ·rw[aM hz,gP ⟨by omega,by omega⟩,cHM];rw[Cy];have h3:val a<4294967296^(n.toNat/32):=cCM (dT ha) (eY);have aCM:0<2^(n.toNat%32):=dA;exact cCM h3 (Nat.le_mul_of_pos_right _ aCM)
  ·have hp:2^(n.toNat%32)<2^32:=cII (by omega) (by omega);have aCM:0<2^(n.toNat%32):=dA;rw[aL hz,if_pos ⟨by omega,by omega,by omega⟩,aP,Xt (by omega) (by omega),cFM,cIK,e1,e2];rw[gP ⟨ha.drop _,by rw[cFP];omega,by generalize 2^(n.toNat%32)=p at *;omega⟩,cFM,lU ha,aJL]
def aJ:dJ:=orc2 (pI .u32) (pN .i64) sp
theorem ok:OK 180 aJ:=(dY E aE (aA Norm.ok (aA Bz.ok (aA wX.ok aC))) func180).lD rfl spec
end bJC
namespace aRK
def E:=mE [(214,aSD.aJ),(186,Fits.aJ),(180,bJC.aJ)] 43 [18] [] []
def aE:=bd f175
theorem aT:Nk E aE:=nk
theorem start a c d e f g b:aF E f175 aE [D.agg [sc (int u64 a),sc (int i64 c),sc (int i64 d),sc (int i64 e),sc (int u64 f),sc (int u64 g)],D.s (ints u32 b)]=letI B:=(↑(bl (val b)):Int);letI A:=dg (val b/(2:Nat)^(i64.wrap (B-c)).toNat);aN (cN b/\b.length<=4398046511104) (aB (decide (B<c)) (aN (cA b/\b.length<=1099511627776) (some [D.s (sc (int u64 (↑(if val b<18446744073709551616 then val b else(0:Nat)):Int)))])) (aN (cA b/\b.length<=1099511627776/\i64.wrap (B-c)<9223372036854775808) (aN (cA A/\A.length<=1099511627776) (if i64.wrap (c-1)<0 then none else some [D.s (sc (int u64 (u64.wrap (u64.wrap (u64.wrap (i64.wrap (B-c))*(↑((2:Nat)^min (i64.wrap (c-1)).toNat 64):Int))+(↑(if val A<18446744073709551616 then val A else(0:Nat)):Int)))))])))):=eJ aT
def sp(k:K6)(b:List Int):Prop×List D:=(yT k/\cN b/\bl (val b)<=2200,[.s (.sc (.int .u64 (Xp k (val b):Nat)))])
theorem gen{k:K6}{h:Nat}(p:Nat)(hh:kH k=h)(wZ:h=2^(p-1))(hp:k.2.1=(p:Int))(Ao:1<p)(bXN:p<=53)(b:List Int)(hb:cN b)(hl:bl (val b)<=2200) :
  aF E f175 aE [(pG (.pair (sN .u64) (.pair (sN .i64) (.pair (sN .i64) (.pair (sN .i64) (.pair (sN .u64) (sN .u64))))))).put k,(pI .u32).put b]=some (sp k b).2:=by
 refine(start k.1 k.2.1 k.2.2.1 k.2.2.2.1 k.2.2.2.2.1 k.2.2.2.2.2 b).trans ?_;have l0:=aIH (val b);rw[vU hb]at l0;have hP:kP k=p:=by unfold kP;omega
 have bSW:h<=2^52:=by rw[wZ];exact eY
 unfold sp Xp;simp only[hh,hP,bD];rw[hp,gP ⟨hb,by omega⟩]
 by_cases h1:bl (val b)<p
 ·have:val b<2^53:=by rw[<-dP];omega
  rw[aM,gP ⟨hb.jA,by omega⟩,if_pos h1,aR]
 ·have e1:i64.wrap ((bl (val b):Int)-p)=((bl (val b)-p:Nat):Int):=by rw[wrap_i64];omega
  have e2:i64.wrap ((p:Int)-1)=((p-1:Nat):Int):=by rw[wrap_i64];omega
  have l1:=Et (val b) (2^(bl (val b)-p));rw[vU hb]at l1;have hq:val b/2^(bl (val b)-p)<2^53:=by
   have:val b/2^(bl (val b)-p)<2^p:=by
    apply cHJ;rw[<-cGP,<-dP];omega
   exact cCM this (cEQ (by omega) bXN)
  have hm:(bl (val b)-p)*h<=2200*2^52:=Nat.mul_le_mul (by omega) bSW;have e3:min (p-1) 64=p-1:=by omega
  rw[aL,e1,e2,cFM,cFM,gP ⟨hb.jA,by omega,by omega⟩,gP ⟨gG _,by omega⟩,aP,if_neg h1,aR,e3,<-wZ];have e4:((bl (val b)-p:Nat):Int)*(h:Int)=(((bl (val b)-p)*h:Nat):Int):=by rw[Int.natCast_mul]
  rw[wrap_u64 (n:=((bl (val b)-p:Nat):Int)) (by omega) (by omega),e4];generalize (bl (val b)-p)*h=u at *;generalize val b/2^(bl (val b)-p)=v at *;rw[wrap_u64 (n:=(u:Int)),wrap_u64];rfl
theorem spec:fN E f175 aE (pG (.pair (sN .u64) (.pair (sN .i64) (.pair (sN .i64) (.pair (sN .i64) (.pair (sN .u64) (sN .u64))))))) (pI .u32) sp:=by
 rintro k b ⟨hk,hb,hl⟩;rcases hk with rfl |rfl
 ·exact gen 53 Aa.aUK (by simp) rfl (by omega) (by omega) b hb hl
 ·exact gen 24 Aa.aUL (by simp) rfl (by omega) (by omega) b hb hl
def aJ:dJ:=orc2 (pG (.pair (sN .u64) (.pair (sN .i64) (.pair (sN .i64) (.pair (sN .i64) (.pair (sN .u64) (sN .u64))))))) (pI .u32) sp
theorem ok:OK 175 aJ:=(dY E aE (aA aSD.ok (aA Fits.ok (aA bJC.ok aC))) func175).lD rfl spec
end aRK
end W
end Go.Proofs.YtplagoepbghhpaaGreatDoor
end
