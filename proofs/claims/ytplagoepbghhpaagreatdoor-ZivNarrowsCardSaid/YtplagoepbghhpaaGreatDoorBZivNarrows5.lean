/- Contracts. -/
import Derived.RangeFuncFrom
import Derived.RangeFuncLeaves
import Derived.RangeFuncCalls
import Derived.Shelf.Abstract
import Derived.WalkKit
import Derived.OwnWalkIn
import Derived.TacticsInMore
import Derived.LoopNIn
import Derived.LoopIn
import Derived.Test.YtplagoepbghhpaaGreatDoorBZivNarrows4
set_option linter.unusedVariables false
set_option linter.unusedSimpArgs false
set_option exponentiation.threshold 10000000
noncomputable section
open Go.IntKind(i8 i16 i32 i64 u8 u16 u32 u64)
open Go.Proofs.Tryz
open Rat renaming le_of_lt->cGL,intCast_natCast->cMQ,le_refl->cHS,le_trans->cGJ,intCast_add->cOG,mul_assoc->cMO,zero_mul->cQD,intCast_neg->cOF,one_mul->cQE,intCast_sub->cPG,mul_le_mul_of_nonneg_right->cQF
open Nat renaming le_trans->cCA,le_refl->cBE,pow_succ->cGD,pow_add->cGE,pow_pos->cEE,reduceAdd->cPZ,reduceSub->cQA,zero_le->cHH,lt_of_lt_of_le->cCB,mul_assoc->cGH,zero_add->cBG,le_succ->cOI,div_lt_of_lt_mul->cGY,mod_eq_of_lt->cLT,mul_add->cGF,pow_zero->cLF,pow_lt_pow_right->cHX,div_eq_of_lt->cHB,mul_comm->cGC,mul_le_mul_right->cCT,pow_le_pow_right->cEF,div_le_self->cJR,div_eq_zero_iff_lt->cKS
open Int renaming toNat_natCast->cFB,eq_ofNat_of_zero_le->cGG,toNat->cPH,emod_nonneg->cKI,tdiv_eq_ediv_of_nonneg->cIS,natAbs_neg->cHY,mul_assoc->cHR,emod_lt_of_pos->cKJ,tmod_eq_emod_of_nonneg->cIT,natAbs_natCast->cGW,emod_eq_of_lt->cKQ,mul_le_mul_of_nonneg_right->cDO
open List renaming length_cons->cEP,length_nil->cEQ,nil_append->cFH,cons_append->cCX,replicate->cDH,size_toArray->cCU,push_toArray->cQB,append_toArray->cQC,append_assoc->cCZ,drop->cHA,take->cGZ,take_length->cHZ,length_replicate->cOP,length_append->cCI,ext_getElem?->cFD,getElem?_eq_getElem->cBV,length_drop->cFE,drop_zero->cHL
open Bool renaming true_and->cEG,false_and->cGN,false_or->cDF,and_eq_true->cBK
namespace Go.Proofs.YtplagoepbghhpaaGreatDoor
namespace M
open Go AI W
theorem aTP{a b:Nat}{p:Int}(hp:1<=p)(ha:a≠0)(hb:b≠0):p+3<=(bl (cT.Yc a b (cT.Ea p a b)):Nat):=by
 have h1:=aAB ha;have h2:=wL b;have b0:=qV ha;have key:2^(p+1).toNat<=a*2^(cT.Ea p a b)/b:=by
  rw[Nat.le_div_iff_mul_le (by omega)];have e1:2^(p+1).toNat*b<=2^((p+1).toNat+bl b):=by rw[cGE];exact Nat.mul_le_mul_left _ (Nat.le_of_lt h2)
  have e2:2^(bl a-1+cT.Ea p a b)<=a*2^(cT.Ea p a b):=by rw[cGE];exact cCT _ h1
  have e3:2^((p+1).toNat+bl b)<=2^(bl a-1+cT.Ea p a b):=cEF (by decide) (by unfold cT.Ea;omega);omega
 have:2^(p+2).toNat<=cT.Yc a b (cT.Ea p a b):=by
  have e:2^(p+2).toNat=2^(p+1).toNat*2:=by rw[<-cGD];congr 1;omega
  unfold cT.Yc;rw[e];generalize a*2^(cT.Ea p a b)/b=Q at *;omega
 have:=(sL (n:=cT.Yc a b (cT.Ea p a b)) (k:=(p+2).toNat)).2 this;omega
theorem Ts(b:Bool)(n:Nat):(zs b n:Rat)=(if b then -1 else 1)*(n:Rat):=by
 cases b
 ·show((n:Int):Rat)=_;rw[cMQ];simp
 ·show((-(n:Int):Int):Rat)=_;rw[cOF,cMQ,if_pos rfl];grind
theorem aWP(z:Int):zs (isNeg z) z.natAbs=z:=by
 cases h:isNeg z with
 |true=>have:=lT.1 h;show -(z.natAbs:Int)=z;omega
 |false=>have:=iH.1 h;show(z.natAbs:Int)=z;omega
theorem Lh(up:Bool){x y:Int×Int}{p:Int}{q:Rat}(hp:1<=p)(hy:y.1≠0)(hq:q*R.qz y=R.qz x) :
  (up=false->R.qz (aR (cT.wJ up p x y).1 (cT.wJ up p x y).2)<=q/\q<=R.qz (aR (cT.wJ up p x y).1 (cT.wJ up p x y).2)+R.pz (2-p)*R.ab q) /\
  (up=true->q<=R.qz (aR (cT.wJ up p x y).1 (cT.wJ up p x y).2)/\R.qz (aR (cT.wJ up p x y).1 (cT.wJ up p x y).2)<=q+R.pz (2-p)*R.ab q):=by
 rw[pC];unfold cT.wJ cT.bEV;dsimp only;obtain⟨v,v1,v2,v3⟩:=aTO (a:=x.1.natAbs) (b:=y.1.natAbs) (s:=cT.Ea p x.1.natAbs y.1.natAbs) (by omega);have bKS:=aTP (a:=x.1.natAbs) (b:=y.1.natAbs) hp;have cAV:=R.aP q;generalize hs:cT.Ea p x.1.natAbs y.1.natAbs=s at *;generalize hQ:cT.Yc x.1.natAbs y.1.natAbs s=Q at *;obtain⟨e,he⟩:∃e,e=x.2-y.2-(s:Int)-1:=⟨_,rfl⟩;rw[<-he];have pe:=R.dW e;have vq:q=(if(isNeg x.1 !=isNeg y.1)then -1 else 1)*v*R.pz e:=by
  have aUN:(x.1:Rat)=(if isNeg x.1 then -1 else 1)*(x.1.natAbs:Rat):=by rw[<-Ts,aWP]
  have aOH:(y.1:Rat)=(if isNeg y.1 then -1 else 1)*(y.1.natAbs:Rat):=by rw[<-Ts,aWP]
  have bUF:R.qz y≠0:=aWZ hy;have ex:R.pz x.2=2*((2^s:Nat):Rat)*R.pz e*R.pz y.2:=by
   have:x.2=e+y.2+(s:Int)+1:=by omega
   rw[this,R.lO,R.eN,R.kS];grind
  have e2:((if(isNeg x.1 !=isNeg y.1)then -1 else 1)*v*R.pz e)*R.qz y=R.qz x:=by
   unfold R.qz;rw[ex,aUN,aOH];have:v*(y.1.natAbs:Rat)=2*((x.1.natAbs:Rat)*((2^s:Nat):Rat)):=v1;cases isNeg x.1 <;> cases isNeg y.1 <;> simp <;> grind
  have e3:(q-(if(isNeg x.1 !=isNeg y.1)then -1 else 1)*v*R.pz e)*R.qz y=0:=by grind
  rcases Rat.mul_eq_zero.1 e3 with h |h
  ·grind
  ·exact absurd h bUF
 obtain⟨w,hw⟩:∃w,w=(if(isNeg x.1 !=isNeg y.1)then(-1:Rat)else 1)*v:=⟨_,rfl⟩;rw[<-hw]at vq;obtain⟨z,hz⟩:∃z,z=zs (isNeg x.1 !=isNeg y.1) Q:=⟨_,rfl⟩;rw[<-hz];have bMB:(z:Rat)=w\/(z%2=1/\(z:Rat)-1<w/\w<(z:Rat)+1):=by
  rw[hz,Ts,hw];rcases v3 with h |⟨h1,h2,h3⟩
  ·left;rw[h]
  ·right;refine⟨?_,?_⟩
   ·cases (isNeg x.1 !=isNeg y.1)
    ·show((Q:Nat):Int)%2=1;omega
    ·show(-(Q:Int))%2=1;omega
   ·cases (isNeg x.1 !=isNeg y.1) <;> simp <;> constructor <;> grind
 have za:z.natAbs=Q:=by rw[hz];exact kR _ _
 have cAU:R.ab q=R.ab w*R.pz e:=by rw[vq,R.fX,R.bR (cGL pe)]
 have bTH:=R.dW (2-p);unfold cV.oY
 by_cases c:(bl z.natAbs:Int)-p<=0
 ·rw[if_pos c];dsimp only;have bFL:(z:Rat)=w:=by
   rcases bMB with h |⟨h,_⟩
   ·exact h
   ·exfalso;have Qx:x.1.natAbs≠0:=by
     intro h0;rw[h0]at hQ;have:Q=0:=by
      rw[<-hQ];unfold cT.Yc;rw[Nat.zero_mul,Nat.zero_div,Nat.zero_mod,if_pos rfl]
     omega
    have:=bKS Qx (by omega);rw[za]at c;omega
  have:=R.aJ (cGL bTH) cAV;rw[bFL,<-vq];constructor <;> (intro _;constructor <;> grind)
 ·rw[if_neg c];dsimp only;obtain⟨k,hk⟩:=cGG (show 0<=(bl z.natAbs:Int)-p by omega);rw[hk,cFB,R.eN];obtain⟨c1,c2⟩:=aVW up (z:=z) (v:=w) (k:=k) (by omega) bMB;have lit:((2^k:Nat):Rat)<=R.pz (2-p)*R.ab w:=by
   have aIR:z≠0:=by intro h0;rw[h0]at c;exact c (by show(bl 0:Int)-p<=0;rw[Vx];omega)
   have t1:=(pY (p:=(z,0)) aIR).1;have ez:R.qz (z,0)=(z:Rat):=by unfold R.qz;dsimp only;rw[R.gR];grind
   rw[ez]at t1;have et:bC (z,0)=(bl z.natAbs:Int)-1:=by unfold bC;dsimp only;omega
   rw[et]at t1;have b2:2<=bl z.natAbs:=by omega
   have aw:R.ab (z:Rat)-1<=R.ab w:=by
    rcases bMB with h |⟨_,h1,h2⟩
    ·rw[h];grind
    ·have:=R.Wd w ((z:Rat)-w);have:R.ab ((z:Rat)-w)<=1:=by rw[R.cN];constructor <;> grind
     have:w+((z:Rat)-w)=(z:Rat):=by grind
     grind
   have e1:R.pz ((bl z.natAbs:Int)-1)=2*R.pz ((bl z.natAbs:Int)-2):=by rw[<-R.lO];congr 1;omega
   have e2:1<=R.pz ((bl z.natAbs:Int)-2):=by rw[<-R.gR];exact R.cX (by omega)
   have e3:((2^k:Nat):Rat)=R.pz (2-p)*R.pz ((bl z.natAbs:Int)-2):=by rw[<-R.kS,<-R.nD,<-hk];congr 1;omega
   rw[e3];have:=R.aJ (cGL bTH) (show 0<=R.ab w-R.pz ((bl z.natAbs:Int)-2) by grind);grind
  rw[cAU,vq];have l2:=R.aJ (cGL pe) (show 0<=R.pz (2-p)*R.ab w-((2^k:Nat):Rat) by grind);generalize (lL.qU up z k:Rat)=cz at *;generalize ((2^k:Nat):Rat)=K at *;generalize R.pz (2-p)=P2 at *;generalize R.pz e=E at *;generalize R.ab w=aw at *;constructor
  ·intro hu;obtain⟨d1,d2⟩:=c1 hu;have m1:=R.aJ (cGL pe) (show 0<=w-cz*K by grind);have m2:=R.aJ (cGL pe) (show 0<=cz*K+K-w by grind);constructor <;> grind
  ·intro hu;obtain⟨d1,d2⟩:=c2 hu;have m1:=R.aJ (cGL pe) (show 0<=cz*K-w by grind);have m2:=R.aJ (cGL pe) (show 0<=w+K-cz*K by grind);constructor <;> grind
theorem aZD(up:Bool){x y:Int×Int}{p:Int}(hp:1<=p/\p<=70000)(bx:bl x.1.natAbs<=100000)(cAT:bl y.1.natAbs<=100000)(ex:-110000<=x.2/\x.2<=1000)(ey:-110000<=y.2/\y.2<=1000) :
  iQ (cT.wJ up p x y).1 (cT.wJ up p x y).2=true/\bl (aR (cT.wJ up p x y).1 (cT.wJ up p x y).2).1.natAbs<=70001:=by
 unfold cT.wJ cT.bEV;dsimp only;have hs:cT.Ea p x.1.natAbs y.1.natAbs<=170002:=by unfold cT.Ea;omega
 have hQ:bl (cT.Yc x.1.natAbs y.1.natAbs (cT.Ea p x.1.natAbs y.1.natAbs))<=270006:=by
  have h1:bl (x.1.natAbs*2^(cT.Ea p x.1.natAbs y.1.natAbs))<=270002:=cCA (cC.Lw bx) (by omega);have h2:cT.Yc x.1.natAbs y.1.natAbs (cT.Ea p x.1.natAbs y.1.natAbs)<=x.1.natAbs*2^(cT.Ea p x.1.natAbs y.1.natAbs)*2+1:=by
   have:x.1.natAbs*2^(cT.Ea p x.1.natAbs y.1.natAbs)/y.1.natAbs<=x.1.natAbs*2^(cT.Ea p x.1.natAbs y.1.natAbs):=cJR _ _;unfold cT.Yc;generalize x.1.natAbs*2^(cT.Ea p x.1.natAbs y.1.natAbs)/y.1.natAbs=A at *;generalize x.1.natAbs*2^(cT.Ea p x.1.natAbs y.1.natAbs)=B at *;split <;> omega
  refine cCA (gF h2) (cCA (Dl _ _) ?_);have h3:=Ja (x.1.natAbs*2^(cT.Ea p x.1.natAbs y.1.natAbs)) 2;have h4:bl 2=2:=rfl;have h5:bl 1=1:=rfl;omega
 generalize cT.Ea p x.1.natAbs y.1.natAbs=s at *;generalize cT.Yc x.1.natAbs y.1.natAbs s=Q at *;have hz:(zs (isNeg x.1 !=isNeg y.1) Q).natAbs=Q:=kR _ _;rw[<-hz]at hQ;generalize zs (isNeg x.1 !=isNeg y.1) Q=z at *;unfold cV.oY;split
 ·dsimp only;exact⟨iM (by omega) (by omega),cCA (xG _ _) (by omega)⟩
 ·dsimp only;have hc:=aDI up z ((bl z.natAbs:Int)-p).toNat p.toNat (by omega);generalize lL.qU up z ((bl z.natAbs:Int)-p).toNat=c at *;exact⟨iM (by omega) (by omega),cCA (xG _ _) (by omega)⟩
theorem Zs{a b u v S C V ρ m q1 q2:Rat}(ha:a+m<=S)(hb:S+m<=b)(aYB:b-a<=ρ*S)(hu:u+m<=C)(hv:C+m<=v)(huv:v-u<=ρ*C)(m0:0<=m)(S0:0<S)(C0:0<C)(C1:C<=1)(r0:0<=ρ)(r1:ρ<=1/64)(hV:V*C=S)(h1:q1*v=a)(h2:q2*u=b) :
  q1+m<=V/\V+m<=q2/\q2<=V+3*ρ*V/\V-2*ρ*V<=q1/\0<V/\0<=q1:=by
 have rS:=R.aJ (cGL S0) (show 0<=1/64-ρ by grind);have rC:=R.aJ (cGL C0) (show 0<=1/64-ρ by grind);have a0:0<a:=by grind
 have u0:0<u:=by grind
 have v0:0<v:=by grind
 have V0:0<V:=by
  refine Rat.not_le.1 fun hn=>?_
  have:=R.aJ (show 0<=-V by grind) (cGL C0);grind
 have bLB:0<q1:=by
  refine Rat.not_le.1 fun hn=>?_
  have:=R.aJ (show 0<=-q1 by grind) (cGL v0);grind
 have bUT:0<q2:=by
  refine Rat.not_le.1 fun hn=>?_
  have:=R.aJ (show 0<=-q2 by grind) (cGL u0);grind
 have mC:=R.aJ m0 (show 0<=1-C by grind);have rV:=R.aJ r0 (cGL V0);have bQR:=R.aJ rV (cGL C0);have rr:=R.aJ bQR (show 0<=1/64-ρ by grind);have rq:=R.aJ bQR r0;refine⟨?_,?_,?_,?_,V0,cGL bLB⟩
 ·refine R.cK C0 ?_;have:=R.aJ (cGL bLB) (show 0<=v-C by grind);grind
 ·refine R.cK C0 ?_;have:=R.aJ (cGL bUT) (show 0<=C-u by grind);grind
 ·refine R.cK u0 ?_;have h:=R.aJ (show 0<=V+3*ρ*V by grind) (show 0<=u-(C-ρ*C) by grind);have e:(V+3*ρ*V)*(C-ρ*C)=V*C+2*(ρ*V*C)-3*(ρ*V*C*ρ):=by grind
  have e2:ρ*S=ρ*V*C:=by rw[<-hV];grind
  grind
 ·refine R.cK v0 ?_;have h:=R.aJ (show 0<=V-2*ρ*V by have:=R.aJ (cGL V0) (show 0<=1/64-ρ by grind);grind) (show 0<=(C+ρ*C)-v by grind);have e:(V-2*ρ*V)*(C+ρ*C)=V*C-ρ*V*C-2*(ρ*V*C*ρ):=by grind
  have e2:ρ*S=ρ*V*C:=by rw[<-hV];grind
  grind
theorem aHL{p:Int×Int}:decide (eR p (0,0)<0)=decide (R.qz p<0):=by
 have h:=Dk (p:=p) (q:=(0,0));rw[R.pU (p:=(0,0)) rfl]at h
 by_cases c:R.qz p<0
 ·rw[decide_eq_true c,decide_eq_true (h.2 c)]
 ·rw[decide_eq_false c,decide_eq_false fun hh=>c (h.1 hh)]
def Ks(p:Int×Int):Prop:=bl p.1.natAbs<=100000/\-110000<=p.2/\p.2<=1000
theorem Az{p:Int×Int}(hb:bl p.1.natAbs<=100000)(Bp:p.1≠0)(h0:R.pz (-1300)<=R.ab (R.qz p))(h1:R.ab (R.qz p)<=2):Ks p:=by
 have a:=Em Bp h0;have b:bC p<=1:=Ft Bp (by rw[R.aNG];exact h1);have c:=qV (n:=p.1.natAbs) (by omega);unfold bC at a b;exact⟨hb,by omega,by omega⟩
theorem aFR{s c:(Int×Int)×(Int×Int)}{S C V ρ m:Rat}{p:Int}(hs:Bx s S (ρ*R.ab S) m)(hc:Bx c C (ρ*R.ab C) m)(S0:S≠0)(C0:0<C)(C1:C<=1)(r0:0<=ρ)(r1:ρ<=1/64)(hV:V*C=S)(hp:4<=p/\p<=70000)
  (z1:Ks s.1) (z2:Ks s.2) (z3:Ks c.1) (z4:Ks c.2) :
  iQ (jV.aKT p s.1 c.1 c.2).1 (jV.aKT p s.1 c.1 c.2).2=true/\iQ (jV.aKU p s.2 c.1 c.2).1 (jV.aKU p s.2 c.1 c.2).2=true /\
  Bx (aR (jV.aKT p s.1 c.1 c.2).1 (jV.aKT p s.1 c.1 c.2).2,aR (jV.aKU p s.2 c.1 c.2).1 (jV.aKU p s.2 c.1 c.2).2) V ((5*ρ+3*R.pz (2-p))*R.ab V) m:=by
 obtain⟨s1,s2,s3,s4,m0,s6,s7,s8⟩:=hs;obtain⟨c1,c2,c3,c4,_,c6,c7,c8⟩:=hc;rw[R.bR (cGL C0)]at c8;have rC:=R.aJ (cGL C0) (show 0<=1/64-ρ by grind);have u0:0<R.qz c.1:=by grind
 have v0:0<R.qz c.2:=by grind
 have un:c.1.1≠0:=Jv (by grind);have vn:c.2.1≠0:=Jv (by grind);have e2:=R.dW (2-p);have e3:R.pz (2-p)<=1/4:=by
  have h:=R.cX (show 2-p<=-2 by omega);have h2:=R.yY 2;rw[show -((2:Nat):Int)=-2 by rfl]at h2;rw[h2]at h;have h3:R.hf 2=1/4:=by simp[R.hf];grind
  grind
 have xF:∀up (x y:Int×Int),Ks x->Ks y->iQ (cT.wJ up p x y).1 (cT.wJ up p x y).2=true/\kT (aR (cT.wJ up p x y).1 (cT.wJ up p x y).2)/\bl (aR (cT.wJ up p x y).1 (cT.wJ up p x y).2).1.natAbs<=100000:=by
  intro up x y hx hy;obtain⟨h1,h2⟩:=aZD up (x:=x) (y:=y) (p:=p) (by omega) hx.1 hy.1 hx.2 hy.2;refine⟨h1,⟨by omega,?_,fun h=>Es h,fun h=>Gc h⟩,by omega⟩;unfold iQ at h1;unfold aR;split
  ·dsimp only;omega
  ·rename_i Bp;rw[decide_eq_false Bp,cDF,cBK]at h1;exact⟨of_decide_eq_true h1.1,of_decide_eq_true h1.2⟩
 have aQD:∀a b:Rat,b≠0->a/b*b=a:=fun a b h=>by grind
 unfold jV.aKT jV.aKU;rw[aHL,aHL]
 by_cases hS:0<S
 ·rw[R.bR (cGL hS)]at s8;have rS:=R.aJ (cGL hS) (show 0<=1/64-ρ by grind);rw[decide_eq_false (show ¬R.qz s.1<0 by grind),decide_eq_false (show ¬R.qz s.2<0 by grind),cond_false,cond_false];obtain⟨d1,d2,d3,d4,V0,q0⟩:=Zs (q1:=R.qz s.1/R.qz c.2) (q2:=R.qz s.2/R.qz c.1) s6 s7 s8 c6 c7 c8 m0 hS C0 C1 r0 r1 hV (aQD _ _ (by grind)) (aQD _ _ (by grind));have n1:=(Lh false (x:=s.1) (y:=c.2) (p:=p) (q:=R.qz s.1/R.qz c.2) (by omega) vn (aQD _ _ (by grind))).1 rfl;have n2:=(Lh true (x:=s.2) (y:=c.1) (p:=p) (q:=R.qz s.2/R.qz c.1) (by omega) un (aQD _ _ (by grind))).2 rfl;obtain⟨i1,p1,b1⟩:=xF false s.1 c.2 z1 z4;obtain⟨i2,p2,b2⟩:=xF true s.2 c.1 z2 z3;rw[R.bR q0]at n1;rw[R.bR (show 0<=R.qz s.2/R.qz c.1 by grind)]at n2;refine⟨i1,i2,p1,p2,b1,b2,m0,by grind,by grind,?_⟩;rw[R.bR (cGL V0)];generalize R.qz s.1/R.qz c.2=q1 at *;generalize R.qz s.2/R.qz c.1=q2 at *;have k1:=R.aJ (cGL e2) (show 0<=V+3*ρ*V-q2 by grind);have k2:=R.aJ (cGL e2) (show 0<=V-q1 by grind);have k3:=R.aJ (R.aJ (cGL e2) (cGL V0)) (show 0<=1/64-ρ by grind);dsimp only;grind
 ·have bOS:0 < -S:=by grind
  have eS:R.ab S=-S:=by unfold R.ab;rw[if_neg (by grind)]
  rw[eS]at s8;have rS:=R.aJ (cGL bOS) (show 0<=1/64-ρ by grind);rw[decide_eq_true (show R.qz s.1<0 by grind),decide_eq_true (show R.qz s.2<0 by grind),cond_true,cond_true];have f1:-(R.qz s.2/R.qz c.2)*R.qz c.2=-R.qz s.2:=by have:=aQD (R.qz s.2) (R.qz c.2) (by grind);grind
  have f2:-(R.qz s.1/R.qz c.1)*R.qz c.1=-R.qz s.1:=by have:=aQD (R.qz s.1) (R.qz c.1) (by grind);grind
  obtain⟨d1,d2,d3,d4,V0,q0⟩:=Zs (V:=-V) (a:=-R.qz s.2) (b:=-R.qz s.1) (S:=-S) (q1:=-(R.qz s.2/R.qz c.2)) (q2:=-(R.qz s.1/R.qz c.1)) (by grind) (by grind) (by grind) c6 c7 c8 m0 bOS C0 C1 r0 r1 (by grind) f1 f2;have n1:=(Lh false (x:=s.1) (y:=c.1) (p:=p) (q:=R.qz s.1/R.qz c.1) (by omega) un (aQD _ _ (by grind))).1 rfl;have n2:=(Lh true (x:=s.2) (y:=c.2) (p:=p) (q:=R.qz s.2/R.qz c.2) (by omega) vn (aQD _ _ (by grind))).2 rfl;obtain⟨i1,p1,b1⟩:=xF false s.1 c.1 z1 z3;obtain⟨i2,p2,b2⟩:=xF true s.2 c.2 z2 z4;rw[<-R.jM,R.bR (show 0<=-(R.qz s.1/R.qz c.1) by grind)]at n1;rw[<-R.jM,R.bR q0]at n2;refine⟨i1,i2,p1,p2,b1,b2,m0,by grind,by grind,?_⟩;rw[<-R.jM,R.bR (cGL V0)];generalize R.qz s.2/R.qz c.2=q1 at *;generalize R.qz s.1/R.qz c.1=q2 at *;have k1:=R.aJ (cGL e2) (show 0<=-V+3*ρ*-V+q2 by grind);have k2:=R.aJ (cGL e2) (show 0<=-V+q1 by grind);have k3:=R.aJ (R.aJ (cGL e2) (cGL V0)) (show 0<=1/64-ρ by grind);dsimp only;grind
theorem Kx{p:Int×Int}(h:Ks p):Ks (lD.yC p):=by
 obtain⟨a,b⟩:=h;refine⟨?_,b⟩;show bl (-p.1).natAbs<=_;rw[cHY];exact a
theorem Mu{a b:Int×Int}(h:0<R.qz a)(aYB:R.qz a<=R.qz b):fY.uG a b=1:=by
 unfold fY.uG;have z:R.qz (0,0)=0:=R.pU rfl;rw[if_neg (fun hh=>by have:=Dk.1 hh;grind),if_pos (zL.2 (by grind))]
theorem aBS{a b:Int×Int}(h:R.qz b<0):fY.uG a b=-1:=by
 unfold fY.uG;have z:R.qz (0,0)=0:=R.pU rfl;rw[if_pos (Dk.2 (by grind))]
theorem aNF{s c:(Int×Int)×(Int×Int)}{S C V ρ m:Rat}{p:Int}(hs:Bx s S (ρ*R.ab S) m)(hc:Bx c C (ρ*R.ab C) m)(S0:S≠0)(C0:C≠0)(C1:R.ab C<=1)(r0:0<=ρ)(r1:ρ<=1/64)(hV:V*C=S)(hp:4<=p/\p<=70000)
  (z1:Ks s.1) (z2:Ks s.2) (z3:Ks c.1) (z4:Ks c.2) :
  fY.uG c.1 c.2≠0/\iQ (jV.Nb p s.1 s.2 c.1 c.2).1 (jV.Nb p s.1 s.2 c.1 c.2).2=true/\iQ (jV.Nc p s.1 s.2 c.1 c.2).1 (jV.Nc p s.1 s.2 c.1 c.2).2=true /\
  Bx (aR (jV.Nb p s.1 s.2 c.1 c.2).1 (jV.Nb p s.1 s.2 c.1 c.2).2,aR (jV.Nc p s.1 s.2 c.1 c.2).1 (jV.Nc p s.1 s.2 c.1 c.2).2) V ((5*ρ+3*R.pz (2-p))*R.ab V) m:=by
 have lo:=hc.lo;have hi:=hc.hi;have m0:=hc.m0;have wd:=hc.wd
 by_cases c0:0<C
 ·rw[R.bR (cGL c0)]at C1 wd;have rC:=R.aJ (cGL c0) (show 0<=1/64-ρ by grind);have sg:=Mu (a:=c.1) (b:=c.2) (by grind) (by grind);unfold jV.Nb jV.Nc;rw[sg,show((1:Int)==-1)=false from rfl];simp only[cond_false];exact⟨by decide,aFR hs hc S0 c0 C1 r0 r1 hV hp z1 z2 z3 z4⟩
 ·have e:R.ab C=-C:=by unfold R.ab;rw[if_neg (by grind)]
  rw[e]at C1 wd;have rC:=R.aJ (show 0<=-C by grind) (show 0<=1/64-ρ by grind);have sg:=aBS (a:=c.1) (b:=c.2) (by grind);unfold jV.Nb jV.Nc;rw[sg,show((-1:Int)==-1)=true from rfl];simp only[cond_true];have rT:=hs.neg;have bOK:=hc.neg;rw[<-R.jM]at rT bOK;have s0:-S≠0:=by grind
  have c1:0 < -C:=by grind
  have v1:V*-C=-S:=by grind
  have q:=aFR rT bOK s0 c1 C1 r0 r1 v1 hp (Kx z2) (Kx z1) (Kx z4) (Kx z3);dsimp only at q;exact⟨by decide,q⟩
theorem aFY{s:(Int×Int)×(Int×Int)}{V W m:Rat}{n:Int}(pl:kT s.1)(ph:kT s.2)(m0:0<=m)(lo:R.qz s.1+m<=V)(hi:V+m<=R.qz s.2)(wd:R.qz s.2-R.qz s.1<=W)(hn:1<=n/\n<=70000)(h1:R.ab (R.qz s.1)<=R.pz 1100)(h2:R.ab (R.qz s.2)<=R.pz 1100) :
  yR false s.1 n=true/\yR true s.2 n=true/\Bx (shD false s.1 n,shD true s.2 n) V (W+R.pz (1-n)*(R.ab (R.qz s.1)+R.ab (R.qz s.2))) m:=by
 have aXH:∀{p:Int×Int},kT p->R.ab (R.qz p)<=R.pz 1100->bKU p:=by
  intro p hp hv;refine⟨hp,?_⟩
  by_cases h0:p.1=0
  ·have hb:M.bl p.1.natAbs=0:=by rw[h0];rfl
   have:=hp.2.2.1 h0;omega
  ·have:=Ft h0 hv;unfold bC at this;omega
 obtain⟨a1,a2⟩:=Sa (up:=false) (n:=n) (aXH pl h1) hn.1;obtain⟨a3,a4⟩:=Sa (up:=true) (n:=n) (aXH ph h2) hn.1;have n1:=(Ht false s.1 hn.1).1 rfl;have n2:=(Ht true s.2 hn.1).2 rfl;have b1:=Ba false s.1 n.toNat;have b2:=Ba true s.2 n.toNat;rw[show((n.toNat:Nat):Int)=n by omega]at b1 b2;exact⟨a1,a3,a2,a4,by dsimp only;omega,by dsimp only;omega,m0,by dsimp only;grind,by dsimp only;grind,by dsimp only;grind⟩
theorem aCB{s:(Int×Int)×(Int×Int)}{V W m:Rat}{n:Int}(h:Bx s V W m)(hn:1<=n/\n<=70000)(h1:R.ab (R.qz s.1)<=R.pz 1100)(h2:R.ab (R.qz s.2)<=R.pz 1100) :
  yR false s.1 n=true/\yR true s.2 n=true/\Bx (shD false s.1 n,shD true s.2 n) V (W+R.pz (1-n)*(R.ab (R.qz s.1)+R.ab (R.qz s.2))) m :=
 aFY h.pl h.ph h.m0 h.lo h.hi h.wd hn h1 h2
theorem aTC{a b:Int×Int}{p:Int}(aYB:R.qz a<=R.qz b)(h:(0<R.qz a/\(R.qz b-R.qz a)*R.pz p<=R.qz a)\/(R.qz b<0/\(R.qz b-R.qz a)*R.pz p<=-R.qz b)):Hd.bDF a b p=true:=by
 unfold Hd.bDF
 by_cases he:eR a b=0
 ·rw[he];rfl
 ·rw[show(eR a b==0)=false from beq_eq_false_iff_ne.2 he,cond_false];obtain⟨n,hn,sg,hw⟩:∃n:Int×Int,(bif decide (fY.uG a b<0)then b else a)=n/\fY.uG a b≠0/\(n.1≠0/\(R.qz b-R.qz a)*R.pz p<=R.ab (R.qz n)):=by
   rcases h with ⟨h1,h2⟩ |⟨h1,h2⟩
   ·rw[Mu h1 aYB];exact⟨a,rfl,by decide,Jv (by grind),by rw[R.bR (cGL h1)];exact h2⟩
   ·rw[aBS h1];refine⟨b,rfl,by decide,Jv (by grind),?_⟩;have:R.ab (R.qz b)=-R.qz b:=by unfold R.ab;rw[if_neg (by grind)]
    rw[this];exact h2
  rw[show(fY.uG a b==0)=false from beq_eq_false_iff_ne.2 sg,cond_false,hn];have w0:(bS.oN b (-a.1,a.2)).1≠0:=aMR he;have wq:R.qz (bS.oN b (-a.1,a.2))=R.qz b-R.qz a:=by rw[Uf,pD];grind
  generalize bS.oN b (-a.1,a.2)=w at *;obtain⟨n0,hw⟩:=hw;rw[<-wq]at hw;have wp:0<=R.qz w:=by rw[wq];grind
  obtain⟨t1,t2⟩:=pY w0;obtain⟨u1,u2⟩:=pY n0;rw[R.bR wp]at t1 t2;have pp:=R.dW p
  by_cases ht:bC w+p=bC n
  ·rw[show(bC w+p !=bC n)=false from by rw[ht];exact bne_self_eq_false _,cond_false];refine decide_eq_true (mI.2 ?_);have un:∀x:Int×Int,R.qz (aKS x)*R.pz (bC x)=R.ab (R.qz x):=by
    intro x;rw[Tl];unfold aKS R.qz;dsimp only;rw[cMQ,cMO,<-R.kS];congr 2;unfold bC;omega
   have e1:=un w;have e2:=un n;rw[R.bR wp]at e1;rw[<-ht,R.kS]at e2;refine R.cK (q:=R.pz (bC w)*R.pz p) (Rat.mul_pos (R.dW _) pp) ?_;have e3:R.qz (aKS w)*(R.pz (bC w)*R.pz p)=R.qz w*R.pz p:=by rw[<-cMO,e1]
   grind
  ·rw[show(bC w+p !=bC n)=true from bne_iff_ne.2 ht,cond_true];refine decide_eq_true ?_;have:R.pz (bC w+p)<R.pz (bC n+1):=by
    rw[R.kS];have:=R.aJ (show 0<=R.qz w-R.pz (bC w) by grind) (cGL pp);grind
   have:=R.yA.1 this;omega
end M
open Go.Value(int bool slice)
open AI.S(sc ints)
namespace W
open Go AI M
namespace tB
def Rv(x:gW):Prop:=aU x/\((dv x).1≠0->eR (((dv x).1.natAbs:Nat),(dv x).2) (1,0)<=0/\-524288<=(dv x).2+(bl (dv x).1.natAbs:Nat)-1)
end tB
namespace qZ
def E:=mE [(45,nA.aI),(158,Kt.aI),(14,aRZ.aI),(203,Ct.aI)] 62 [] [(10,[30,31,32]),(4,[1,20,21,22]),(3,[1])] [3]
def aE:=bd f201
theorem aT:Nk E aE:=nk
def J3(a:Nat)(b:Nat->Bool)(c:Nat->List Int)(d:Nat->Int):=lP E f201 aE 3 [(A.v (V.one (L.rows 3 a fun i=>[sc (bool (b i)),ints u64 (c i),sc (int i64 (d i))])),none)]
def L4(a:Nat)(b:Nat->Bool)(c:Nat->List Int)(d:Nat->Int)(e:Nat)(f:Nat->Bool)(g:Nat->List Int)(h:Nat->Int) j k:=pZ E f201 aE 4 [(A.v (V.one (L.rows 3 a fun i=>[sc (bool (b i)),ints u64 (c i),sc (int i64 (d i))])),none),(A.v (V.one (L.rows 3 e fun i=>[sc (bool (f i)),ints u64 (g i),sc (int i64 (h i))])),none),bN j,bN k]
def Jl(a:Nat)(b:Nat->Bool)(c:Nat->List Int)(d:Nat->Int) e f:=pZ E f201 aE 10 [(A.v (V.one (L.rows 3 a fun i=>[sc (bool (b i)),ints u64 (c i),sc (int i64 (d i))])),none),bN e,bN f]
theorem start p (a:gW) (b:gW):aF E f201 aE [D.s (sc (int i64 p)),D.rows 3 2 fun i=>[sc (bool (t2 a b i).fst),ints u64 (t2 a b i).snd.fst,sc (int i64 (t2 a b i).snd.snd)]]=letI A:=some [D.s (sc (int i64 1))];aB (decide (p<1)) A (aB (decide (67000<p)) A (qZ.J3 2 (fun i=>(t2 a b i).fst) (fun i=>(t2 a b i).snd.fst) fun i=>(t2 a b i).snd.snd)):=eJ aT
theorem iB a b c d:J3 a b c d=qZ.L4 a (fun i=>b i) (fun i=>c i) (fun i=>d i) a (fun i=>b i) (fun i=>c i) (fun i=>d i) (a:Int) 0:=cJ aT
theorem nS a b c d e f g h j k:L4 a b c d e f g h j k=aB (decide (k<j)) (if 0<=k/\k<(e:Int)then aM (aU (f k.toNat,g k.toNat,h k.toNat)) (qZ.L4 a (fun i=>b i) (fun i=>c i) (fun i=>d i) e (fun i=>f i) (fun i=>g i) (fun i=>h i) j (i64.wrap (k+1)))else none) (qZ.Jl a (fun i=>b i) (fun i=>c i) (fun i=>d i) (a:Int) 0):=lJ aT
theorem tD a b c d e f:Jl a b c d e f=letI F:=some [D.s (sc (int i64 5))];letI C:=(b f.toNat,c f.toNat,d f.toNat);letI B:=(false,c f.toNat,d f.toNat);letI A:=(isNeg (aR 1 0).fst,M6.dg (aR 1 0).fst.natAbs,(aR 1 0).snd);aB (decide (f<e)) (if 0<=f/\f<(a:Int)then aB ((↑(c f.toNat).length:Int)==(0:Int)) (qZ.Jl a (fun i=>b i) (fun i=>c i) (fun i=>d i) e (i64.wrap (f+1))) (aM ((-9223372036854775808:Int)<=(1:Int)/\(1:Int)<(9223372036854775808:Int)) (aM (aU B/\aU A) (aM (aU C) (aB (decide (0<lI (bS.oG (dv B) (dv A)) (bS.oF (dv B) (dv A)))) F (aB (decide ((if(dv C).fst=0 then(0:Int)else d f.toNat+(↑(bl (M6.val (c f.toNat))):Int)-(1:Int))<(-524288:Int))) F (qZ.Jl a (fun i=>b i) (fun i=>c i) (fun i=>d i) e (i64.wrap (f+1))))))))else none) (some [D.s (sc (int i64 0))]):=lJ aT
abbrev Rv:=tB.Rv
def sp(p:Int)(a:gW×gW):Prop×List D:=((1<=p/\p<=67000)/\Rv a.1/\Rv a.2,[.s (.sc (.int .i64 0))])
theorem LB(n:Nat)(f:Nat->gW)(hn:n<=1000)(hf:∀i,i<n->Rv (f i)):∀d k:Nat,k+d=n->Jl n (fun i=>(f i).1) (fun i=>(f i).2.1) (fun i=>(f i).2.2) (n:Int) (k:Int)=some [.s (.sc (.int .i64 0))]
 |0,k,h=>by rw[tD,aL]
 |d+1,k,h=>by
  have e:i64.wrap ((k:Int)+1)=((k+1:Nat):Int):=by rw[wrap_i64];omega
  have r:=LB n f hn hf d (k+1) (by omega);obtain⟨hx,ht⟩:=hf k (by omega);have hz:=M6.cZ hx.Kk;have ha:(dv (f k)).1.natAbs=M6.val (f k).2.1:=jB ((f k).1,(f k).2.1);rw[tD,aN,aQ,cFB,e]
  by_cases h0:(f k).2.1.length=0
  ·rw[bI];exact r
  ·have hv:(dv (f k)).1≠0:=fun hc=>h0 (hz.2 (by omega))
   obtain⟨t1,t2⟩:=ht hv;have n1:aR 1 0=(1,0):=by decide +kernel
   have pn:kT (1,0):=⟨by decide +kernel,⟨by decide,by decide⟩,fun h=>absurd h (by decide),fun _=>by decide⟩;have v1:=dY ((1,0):Int×Int);have ok:aU (false,(f k).2.1,(f k).2.2):=⟨⟨hx.1.1,fun hf=>(by cases hf),hx.1.len⟩,hx.2⟩;have vx:dv (false,(f k).2.1,(f k).2.2)=((((dv (f k)).1.natAbs:Nat):Int),(dv (f k)).2):=by rw[ha];rfl
   have bYD:((f k).1,(f k).2.1,(f k).2.2)=f k:=rfl;simp only[n1,v1,vx,bYD];rw[bA,gP ⟨by decide,by decide⟩,gP ⟨ok,dV pn⟩,gP hx];have bUM:¬0<lI (bS.oG ((((dv (f k)).1.natAbs:Nat):Int),(dv (f k)).2) (1,0)) (bS.oF ((((dv (f k)).1.natAbs:Nat):Int),(dv (f k)).2) (1,0)):=Int.not_lt.2 t1;have bUL:¬(f k).2.2+((bl (M6.val (f k).2.1):Nat):Int)-1 < -524288:=by
    rw[ha]at t2;have:(dv (f k)).2=(f k).2.2:=rfl;omega
   rw[aL bUM,if_neg hv,aL bUL];exact r
theorem LA(n:Nat)(f:Nat->gW)(hn:n<=1000)(hf:∀i,i<n->Rv (f i)):∀d k:Nat,k+d=n->L4 n (fun i=>(f i).1) (fun i=>(f i).2.1) (fun i=>(f i).2.2) n (fun i=>(f i).1) (fun i=>(f i).2.1) (fun i=>(f i).2.2) (n:Int) (k:Int)=some [.s (.sc (.int .i64 0))]
 |0,k,h=>by rw[nS,aL];exact LB n f hn hf n 0 (by omega)
 |d+1,k,h=>by
  have e:i64.wrap ((k:Int)+1)=((k+1:Nat):Int):=by rw[wrap_i64];omega
  rw[nS,aN,aQ,cFB,gP (hf k (by omega)).1,e];exact LA n f hn hf d (k+1) (by omega)
theorem spec:fL E f201 aE (pN .i64) (bJE (.pair sB (.pair (sI .u64) (sN .i64))) (false,[],0)) sp:=by
 rintro p a ⟨⟨p0,p1⟩,h⟩;have hf:∀i,i<2->Rv (t2 a.1 a.2 i):=fun i hi=>by
  obtain rfl |rfl:i=0\/i=1:=by omega
  ·exact h.1
  ·exact h.2
 refine(start p a.1 a.2).trans ?_;rw[aL,aL,iB];exact LA 2 (fun i=>t2 a.1 a.2 i) (by decide) hf 2 0 (by omega)
def aI:dJ:=orc2 (pN .i64) (bJE (.pair sB (.pair (sI .u64) (sN .i64))) (false,[],0)) sp
theorem ok:OK 201 aI:=(eB E aE (aA nA.ok (aA Kt.ok (aA aRZ.ok (aA Ct.ok aC)))) func201).lF rfl spec
end qZ
namespace Jg
def E:=mE [(67,wV.aI),(201,qZ.aI)] 21 [20] [(3,[1,2])] [3]
def aE:=bd f156
theorem aT:Nk E aE:=nk
def J3 a b c d e f g:=lP E f156 aE 3 [bN a,dS 1 44 [dG b,gO c,cP d,dG e,gO f,cP g]]
theorem start a c d e f g b:aF E f156 aE [D.agg [sc (bool a),ints u64 c,sc (int i64 d),sc (bool e),ints u64 f,sc (int i64 g)],D.s (sc (int i64 b))]=letI A:=some [D.s (sc (int i64 1))];aB (decide (b<1)) A (aB (decide (67000<b)) A (Jg.J3 b a c d e f g)):=eJ aT
theorem iB a b c d e f g:J3 a b c d e f g=aM (fA (b,c,d,e,f,g)) (aM ((1<=a/\a<=67000)/\qZ.Rv (b,c,d)/\qZ.Rv (e,f,g)) (some [D.s (sc (int i64 0))])):=cJ aT
def sp(s:yN)(p:Int):Prop×List D:=((1<=p/\p<=67000)/\fA s/\tB.Rv (iR s)/\tB.Rv (iS s),[.s (.sc (.int .i64 0))])
theorem spec:fL E f156 aE Ab (pN .i64) sp:=by
 rintro s p ⟨⟨p0,p1⟩,h1,h2,h3⟩;refine(start s.1 s.2.1 s.2.2.1 s.2.2.2.1 s.2.2.2.2.1 s.2.2.2.2.2 p).trans ?_;rw[aL,aL]
 first
  |exact(gP h1).trans (gP ⟨⟨p0,p1⟩,h2,h3⟩)
  | (rw[iB];exact(gP h1).trans (gP ⟨⟨p0,p1⟩,h2,h3⟩))
def aI:dJ:=orc2 Ab (pN .i64) sp
theorem ok:OK 156 aI:=(eB E aE (aA wV.ok (aA qZ.ok aC)) func156).lF rfl spec
end Jg
namespace cU
def E:=mE [(156,Jg.aI),(120,Ji.aI),(158,Kt.aI),(159,fY.aI),(160,bM.aI)] 61 [17] [(10,[1,2,4,9,10]),(13,[1,4,9,10])] [10,13]
def aE:=bd f116
theorem aT:Nk E aE:=nk
def aSR a b c d e f g h i j k l m n o p q:=lP E f116 aE 10 [bN a,dS 1 44 [dG b,gO c,cP d,dG e,gO f,cP g],dS 2 44 [dG h,sc (slice none 0 0),cP i,dG j,sc (slice none 0 0),cP k],dS 3 29 [dG l,gO m,cP n],dS 4 29 [dG o,gO p,cP q]]
def Qc a b c d e f g h i j:=lP E f116 aE 13 [bN a,dS 1 44 [dG b,sc (slice none 0 0),cP c,dG d,sc (slice none 0 0),cP e],dS 2 29 [dG f,sc (slice none 0 0),cP g],dS 3 29 [dG h,gO i,cP j]]
def bCV a b c d e f g h i j k:=lP E f116 aE 13 [bN a,dS 1 44 [dG b,sc (slice none 0 0),cP c,dG d,sc (slice none 0 0),cP e],dS 2 29 [dG f,gO g,cP h],dS 3 29 [dG i,gO j,cP k]]
theorem start a c d e f g b:aF E f116 aE [D.agg [sc (bool a),ints u64 c,sc (int i64 d),sc (bool e),ints u64 f,sc (int i64 g)],D.s (sc (int i64 b))]=letI C:=(false,f,g);letI B:=(false,c,d);letI A:=(a,c,d,e,f,g);aM ((1<=b/\b<=67000)/\fA A/\tB.Rv (iR A)/\tB.Rv (iS A)) (aM (aU B/\aU C) (aD (lI (bS.oG (dv B) (dv C)) (bS.oF (dv B) (dv C))) fun h=>aB (decide (0<h)) (cU.aSR b a c d e f g false 0 false 0 false f g false c d) (cU.aSR b a c d e f g false 0 false 0 false c d false f g))):=eJ aT
theorem aEI a b c d e f g h i j k l m n o p q:aSR a b c d e f g h i j k l m n o p q=letI A:=(b,c,d,e,f,g);aM (fA A) (aD (fY.uG (dv (iR A)) (dv (iS A))) fun r=>aB (r==0) (cU.Qc a h i j k false 0 o p q) (cU.bCV a h i j k l m n o p q)):=cJ aT
theorem wW a b c d e f g h i j:Qc a b c d e f g h i j=letI A:=i64.wrap (a+2);letI C:=bM.tT (dv (h,i,j)) A;letI B:=bM.sZ (dv (f,[],g)) A;aM (bM.aJX (h,i,j) A) (aD (isNeg C.fst) fun k=>aD (M6.dg C.fst.natAbs) fun l=>aD C.snd fun m=>aM (bM.aJX (f,[],g) A) (aD (isNeg B.fst) fun n=>aD (M6.dg B.fst.natAbs) fun o=>aD B.snd fun p=>some [D.agg [sc (bool k),ints u64 l,sc (int i64 m),sc (bool n),ints u64 o,sc (int i64 p)],D.s (sc (int i64 0))])):=cJ aT
theorem aWN a b c d e f g h i j k:bCV a b c d e f g h i j k=letI A:=i64.wrap (a+2);letI C:=bM.sZ (dv (f,g,h)) A;letI B:=bM.tT (dv (i,j,k)) A;aM (bM.aJX (i,j,k) A) (aD (isNeg B.fst) fun l=>aD (M6.dg B.fst.natAbs) fun m=>aD B.snd fun n=>aM (bM.aJX (f,g,h) A) (aD (isNeg C.fst) fun o=>aD (M6.dg C.fst.natAbs) fun p=>aD C.snd fun q=>some [D.agg [sc (bool l),ints u64 m,sc (int i64 n),sc (bool o),ints u64 p,sc (int i64 q)],D.s (sc (int i64 0))])):=cJ aT
def aBI(x:gW):gW:=(false,x.2.1,x.2.2)
def Bt(s:yN):gW:=bif decide (0<eR (dv (aBI (iR s))) (dv (aBI (iS s))))then aBI (iR s)else aBI (iS s)
def uW(s:yN):gW:=bif fY.uG (dv (iR s)) (dv (iS s))==0 then(false,[],0)else bif decide (0<eR (dv (aBI (iR s))) (dv (aBI (iS s))))then aBI (iS s)else aBI (iR s)
def aDN(s:yN)(p:Int):Prop:=((1<=p/\p<=67000)/\fA s/\tB.Rv (iR s)/\tB.Rv (iS s))/\(bM.sp (Bt s) (p+2)).1/\(bM.sp (uW s) (p+2)).1
def sp(s:yN)(p:Int):Prop×List D:=(aDN s p,[wZ (bM.tT (dv (Bt s)) (p+2)) (bM.sZ (dv (uW s)) (p+2)),.s (.sc (.int .i64 0))])
theorem JN{s:yN}{p:Int}(hp:1<=p/\p<=67000)(hs:fA s){n f:gW}(hf:(bM.sp f (p+2)).1)(hn:(bM.sp (bif fY.uG (dv (iR s)) (dv (iS s))==0 then(false,[],0)else n) (p+2)).1) :
  aSR p s.1 s.2.1 s.2.2.1 s.2.2.2.1 s.2.2.2.2.1 s.2.2.2.2.2 false 0 false 0 n.1 n.2.1 n.2.2 f.1 f.2.1 f.2.2=some [wZ (bM.tT (dv f) (p+2)) (bM.sZ (dv (bif fY.uG (dv (iR s)) (dv (iS s))==0 then(false,[],0)else n)) (p+2)),.s (.sc (.int .i64 0))]:=by
 have w:i64.wrap (p+2)=p+2:=wrap_i64;rw[aEI,gP hs,aG];show aB (fY.uG (dv (iR s)) (dv (iS s))==0) _ _=_
 by_cases c:fY.uG (dv (iR s)) (dv (iS s))=0
 ·rw[show(fY.uG (dv (iR s)) (dv (iS s))==0)=true from beq_iff_eq.2 c,cond_true]at hn ⊢;show Qc _ _ _ _ _ _ _ _ _ _=_;rw[wW];simp only[w,aG];exact(gP hf).trans ((gP hn).trans rfl)
 ·rw[show(fY.uG (dv (iR s)) (dv (iS s))==0)=false from beq_eq_false_iff_ne.2 c,cond_false]at hn ⊢;show bCV _ _ _ _ _ _ _ _ _ _ _=_;rw[aWN];simp only[w,aG];exact(gP hf).trans ((gP hn).trans rfl)
theorem spec:fL E f116 aE Ab (pN .i64) sp:=by
 rintro s p ⟨h1,h2,h3⟩;refine(start s.1 s.2.1 s.2.2.1 s.2.2.2.1 s.2.2.2.2.1 s.2.2.2.2.2 p).trans ?_;have ab:∀x:gW,aU x->aU (aBI x):=fun x hx=>⟨⟨hx.1.1,fun hf=>(by cases hf),hx.1.len⟩,hx.2⟩
 refine(gP h1).trans ((gP ⟨ab _ h1.2.1.1,ab _ h1.2.1.2.1⟩).trans ?_);rw[aG];unfold sp;unfold Bt uW at *;dsimp only;show aB (decide (0<eR (dv (aBI (iR s))) (dv (aBI (iS s))))) _ _=_
 by_cases c:0<eR (dv (aBI (iR s))) (dv (aBI (iS s)))
 ·rw[aN c];rw[decide_eq_true c,cond_true,cond_true]at *;exact JN h1.1 h1.2.1 h2 h3
 ·rw[aL c];rw[decide_eq_false c,cond_false,cond_false]at *;exact JN h1.1 h1.2.1 h2 h3
def aI:dJ:=orc2 Ab (pN .i64) sp
theorem ok:OK 116 aI:=(eB E aE (aA Jg.ok (aA Ji.ok (aA Kt.ok (aA fY.ok (aA bM.ok aC))))) func116).lF rfl spec
end cU
namespace nR
def E:=mE [(156,Jg.aI),(157,fU.aI)] 27 [9] [] []
def aE:=bd f115
theorem aT:Nk E aE:=nk
theorem start a c d e f g b:aF E f115 aE [D.agg [sc (bool a),ints u64 c,sc (int i64 d),sc (bool e),ints u64 f,sc (int i64 g)],D.s (sc (int i64 b))]=letI F:=(a,c,d,e,f,g);letI A:=i64.wrap (b+2);letI C:=fU.Ms (dv (e,f,g)) A;letI B:=fU.Mr (dv (a,c,d)) A;aM ((1<=b/\b<=67000)/\fA F/\tB.Rv (iR F)/\tB.Rv (iS F)) (aM (fU.aTH (a,c,d) A) (aD (isNeg B.fst) fun h=>aD (M6.dg B.fst.natAbs) fun i=>aD B.snd fun j=>aM (fU.aTH (e,f,g) A) (aD (isNeg C.fst) fun k=>aD (M6.dg C.fst.natAbs) fun l=>aD C.snd fun m=>some [D.agg [sc (bool h),ints u64 i,sc (int i64 j),sc (bool k),ints u64 l,sc (int i64 m)],D.s (sc (int i64 0))]))):=eJ aT
def Xn(s:yN)(p:Int):Prop:=((1<=p/\p<=67000)/\fA s/\tB.Rv (iR s)/\tB.Rv (iS s))/\(fU.sp (iR s) (p+2)).1/\(fU.sp (iS s) (p+2)).1
def sp(s:yN)(p:Int):Prop×List D:=(Xn s p,[wZ (fU.Mr (dv (iR s)) (p+2)) (fU.Ms (dv (iS s)) (p+2)),.s (.sc (.int .i64 0))])
theorem spec:fL E f115 aE Ab (pN .i64) sp:=by
 rintro s p ⟨h1,h2,h3⟩;have p0:=h1.1;refine(start s.1 s.2.1 s.2.2.1 s.2.2.2.1 s.2.2.2.2.1 s.2.2.2.2.2 p).trans ?_;have w:i64.wrap (p+2)=p+2:=wrap_i64;simp only[w];rw[gP h1];simp only[aG];exact(gP h2).trans ((gP h3).trans rfl)
def aI:dJ:=orc2 Ab (pN .i64) sp
theorem ok:OK 115 aI:=(eB E aE (aA Jg.ok (aA fU.ok aC)) func115).lF rfl spec
end nR
end W
namespace R
def fv(fn:Int)(x:Rat)(k:Int):Rat:=if fn=1 then Sf x k else if fn=2 then Cf x k else Sf x k/Cf x k
end R
namespace M
open Go AI W
def mg(p:Int):Rat:=if p<2500 then 0 else R.pz (-p-1500)
theorem aXI(p:Int):0<=mg p:=by
 unfold mg;split
 ·exact cHS
 ·exact cGL (R.dW _)
theorem aXJ(p:Int):mg p<=R.pz (-p-1500):=by
 unfold mg;split
 ·exact cGL (R.dW _)
 ·exact cHS
structure mJ(u v:Int×Int)(a:Rat)(p:Int):Prop where
 pu:kT u
 pv:kT v
 a0:R.pz (-1074)<=a
 a1:a<=79/100
 lu:R.ab (R.qz u)<=a
 lv:a<=R.ab (R.qz v)
 wd:R.ab (R.qz v)-R.ab (R.qz u)<=R.pz (-p-23)*a
theorem aZE{p:Int}(hp:-6<=p):R.pz (-p-23)<=1/131072:=by
 have:=R.cX (show -p-23<=-17 by omega);have e:=R.gL 0 (n:=17) (c:=131072) (by norm_cast);rw[R.gR,show(0:Int)-((17:Nat):Int)=-17 by rfl]at e;grind
theorem mJ.more{u v:Int×Int}{a:Rat}{p:Int}(h:mJ u v a p)(hp:-6<=p):0<a/\3/4*a<=R.ab (R.qz u)/\R.ab (R.qz v)<=5/4*a/\R.ab (R.qz v)<=4/5/\u.1≠0/\v.1≠0/\-1075<=bC u/\-1075<=bC v:=by
 obtain⟨_,_,a0,a1,lu,lv,wd⟩:=h;have ap:0<a:=by have:=R.dW (-1074);grind
 have bUE:=aZE hp;have m:=R.aJ (cGL ap) (show 0<=1/131072-R.pz (-p-23) by grind);have u1:3/4*a<=R.ab (R.qz u):=by grind
 have aEP:u.1≠0:=Jv (by intro hz;rw[hz,R.bR cHS]at u1;grind);have aKQ:v.1≠0:=Jv (by intro hz;rw[hz,R.bR cHS]at lv;grind);have t:R.pz (-1075)*2=R.pz (-1074):=by have:=R.sE (-1074);rw[show(-1074:Int)-1=-1075 by rfl]at this;exact this
 have tp:=R.dW (-1075);exact⟨ap,u1,by grind,by grind,aEP,aKQ,Em aEP (by grind),Em aKQ (by grind)⟩
theorem aMZ{u v:Int×Int}{a:Rat}{p n:Int}(h:mJ u v a p)(hp:-6<=p/\p<=66000)(hn:p+14<=n/\n<=p+150/\1<=n):bED u n/\bED v n/\Bx (fU.vO u n,fU.uF v n) (R.sn a) (R.pz (-p-12)*R.ab (R.sn a)) (mg p):=by
 obtain⟨ap,u1,v1,v2,aEP,aKQ,tu,tv⟩:=h.more hp.1;obtain⟨pu,pv,a0,a1,lu,lv,wd⟩:=h;have nu:=Xr pu aEP (p:=n) (by grind) (by omega) (by omega);have nv:=Xr pv aKQ (p:=n) (by grind) (by omega) (by omega);refine⟨nu,nv,nu.pl,nv.ph,cCA nu.bl (by decide),cCA nv.bh (by decide),aXI p,?_,?_,?_⟩
 ·dsimp only;have h1:=nu.lo;have h2:=R.aFA (x:=R.ab (R.qz u)) (y:=a) (by rw[R.bR (R.aP _)];grind) (by rw[R.bR (by grind)];grind) lu;have h3:=aXJ p;have h4:R.pz (-p-1500)<=R.pz (bC u-n-270):=R.cX (by omega);grind
 ·dsimp only;have h2:=R.aFA (x:=a) (y:=R.ab (R.qz v)) (by rw[R.bR (by grind)];grind) (by rw[R.bR (R.aP _)];grind) lv;unfold mg;split
  ·have:=nv.hi;grind
  ·have:=nv.mh (by omega);have h4:R.pz (-p-1500)<=R.pz (bC v-n-270):=R.cX (by omega);grind
 ·dsimp only;have k1:=nu.wd;have k2:=nv.wd;have k3:=nu.hi;have k4:=nv.lo;have pz1:=R.dW (bC v-n-270);have bLS:=R.aFB (x:=R.ab (R.qz u)) (y:=R.ab (R.qz v)) (by rw[R.bR (R.aP _)];grind) (by rw[R.bR (R.aP _)];grind);rw[R.bR (show 0<=R.ab (R.qz v)-R.ab (R.qz u) by grind)]at bLS;have l2:=R.Ec (R.sn (R.ab (R.qz v))-R.sn (R.ab (R.qz u)));obtain⟨s1,s2⟩:=R.aFD (cGL ap) (show a<=4/5 by grind);rw[R.bR (show 0<=R.sn a by grind)];have bEI:=R.cX (show -n-1<=-p-15 by omega);have k1:=cGJ k1 (cQF bEI (R.aP (R.qz u)));have k2:=cGJ k2 (cQF bEI (R.aP (R.qz v)));have bPU:R.pz (-p-15)=256*R.pz (-p-23):=by
   have:=R.gL (-p-15) (n:=8) (c:=256) (by norm_cast);rw[show -p-15-((8:Nat):Int)=-p-23 by omega]at this;grind
  have bIE:R.pz (-p-12)=2048*R.pz (-p-23):=by
   have:=R.gL (-p-12) (n:=11) (c:=2048) (by norm_cast);rw[show -p-12-((11:Nat):Int)=-p-23 by omega]at this;grind
  have zp:=R.dW (-p-23);rw[bPU]at k1 k2;rw[bIE];generalize R.pz (-p-23)=z at *;have m1:=R.aJ (cGL zp) (show 0<=5/4*a-R.ab (R.qz v) by grind);have m2:=R.aJ (cGL zp) (show 0<=a-R.ab (R.qz u) by grind);have m3:=R.aJ (cGL zp) (show 0<=R.sn a-4/5*a by grind);have m4:=R.aJ (cGL zp) (cGL ap);grind
theorem bBP{n:Nat}(h:n<=1048576):R.xS<=R.pz (-(n:Int)):=by
 rw[R.yY];exact R.Dh h
theorem bBU{u v:Int×Int}{a:Rat}{p n:Int}(h:mJ u v a p)(hp:-6<=p/\p<=66000)(hn:p+14<=n/\n<=p+150/\1<=n):bKV u n/\bKV v n/\Bx (bM.tT v n,bM.sZ u n) (R.cs a) (R.pz (-p-12)*R.ab (R.cs a)) (mg p):=by
 obtain⟨ap,u1,v1,v2,aEP,aKQ,tu,tv⟩:=h.more hp.1;obtain⟨pu,pv,a0,a1,lu,lv,wd⟩:=h;have nu:=Oy (x:=u) (p:=n) (by grind) (fun _=>by omega) (by omega);have nv:=Oy (x:=v) (p:=n) (by grind) (fun _=>by omega) (by omega);have he:2*R.xS<=R.pz (-p-1501):=by
  have:=bBP (n:=100000) (by omega);have h2:=R.cX (show -((100000:Nat):Int)+1<=-p-1501 by omega);rw[R.lO]at h2;grind
 have e1500:R.pz (-p-1500)=2*R.pz (-p-1501):=by rw[<-R.lO];congr 1;omega
 have pp:=R.dW (-p-1501);have m1:=R.aHI (x:=R.ab (R.qz u)) (y:=a) (R.aP _) lu (by grind);have m2:=R.aHI (x:=a) (y:=R.ab (R.qz v)) (cGL ap) lv (by grind);have mm:=aXJ p;obtain⟨c1,c2⟩:=R.Zt (r:=a) (by rw[R.bR (cGL ap)];grind);refine⟨nu,nv,nv.pl,nu.ph,cCA nv.bl (by decide),cCA nu.bh (by decide),aXI p,?_,?_,?_⟩
 ·dsimp only;have:=nv.ml aKQ;have h4:R.pz (-p-1499)<=R.pz (bC v-n-270):=R.cX (by omega);have bID:R.pz (-p-1499)=2*R.pz (-p-1500):=by rw[<-R.lO];congr 1;omega
  grind
 ·dsimp only
  by_cases c:2*bC u+8 < -n
  ·have e:bM.sZ u n=(1,0):=by
    have et:aW.jU u=bC u:=by unfold aW.jU bC;rw[if_neg aEP]
    unfold bM.sZ;rw[et,if_neg aEP,if_pos c]
   unfold mg;rw[aQ,e,qP];grind
  ·have:=nu.mh aEP c;have h4:R.pz (-p-1499)<=R.pz (bC u-n-270):=R.cX (by omega);have bID:R.pz (-p-1499)=2*R.pz (-p-1500):=by rw[<-R.lO];congr 1;omega
   grind
 ·dsimp only;have k1:=nu.wd;have k2:=nv.wd;have k3:=nu.lo;have k4:=nv.hi;have bLS:=R.aQM (x:=R.ab (R.qz u)) (y:=R.ab (R.qz v)) (by rw[R.bR (R.aP _)];grind) (by rw[R.bR (R.aP _)];grind);rw[R.bR (show 0<=R.ab (R.qz v)-R.ab (R.qz u) by grind)]at bLS;have l2:=R.oU (R.cs (R.ab (R.qz v))-R.cs (R.ab (R.qz u)));rw[R.bR (show 0<=R.cs a by grind)];have bEI:=R.cX (show -n-1<=-p-15 by omega);have k1:=cGJ k1 bEI;have k2:=cGJ k2 bEI;have bPU:R.pz (-p-15)=256*R.pz (-p-23):=by
   have:=R.gL (-p-15) (n:=8) (c:=256) (by norm_cast);rw[show -p-15-((8:Nat):Int)=-p-23 by omega]at this;grind
  have bIE:R.pz (-p-12)=2048*R.pz (-p-23):=by
   have:=R.gL (-p-12) (n:=11) (c:=2048) (by norm_cast);rw[show -p-12-((11:Nat):Int)=-p-23 by omega]at this;grind
  have zp:=R.dW (-p-23);have h5:R.pz (-p-1501)<=R.pz (-p-23):=R.cX (by omega);rw[bPU]at k1 k2;rw[bIE];generalize R.pz (-p-23)=z at *;have m3:=R.aJ (cGL zp) (show 0<=R.cs a-17/25 by grind);have m4:=R.aJ (cGL zp) (show 0<=1-a by grind);grind
def rS(x:Int×Int)(w q:Int):(Int×Int)×(Int×Int):=(fU.Mr (bB.aBF x w) q,fU.Ms (bB.aBG x w) q)
def bDG(x:Int×Int)(w:Int):yN:=nV (bB.aBF x w) (bB.aBG x w)
def rC(x:Int×Int)(w q:Int):(Int×Int)×(Int×Int):=(bM.tT (dv (cU.Bt (bDG x w))) q,bM.sZ (dv (cU.uW (bDG x w))) q)
def sA(x:Int×Int)(w q:Int):((Int×Int)×(Int×Int))×((Int×Int)×(Int×Int)):=VTurned.trn (rS x w q) (rC x w q) (bB.cQ x w).toNat
def rQ (x : Int × Int) (w p : Int) : (Int × Int) × (Int × Int) :=
  (aR (jV.Nb (p + 8) (sA x w (p + 2)).1.1 (sA x w (p + 2)).1.2 (sA x w (p + 2)).2.1 (sA x w (p + 2)).2.2).1 (jV.Nb (p + 8) (sA x w (p + 2)).1.1 (sA x w (p + 2)).1.2 (sA x w (p + 2)).2.1 (sA x w (p + 2)).2.2).2,
   aR (jV.Nc (p + 8) (sA x w (p + 2)).1.1 (sA x w (p + 2)).1.2 (sA x w (p + 2)).2.1 (sA x w (p + 2)).2.2).1 (jV.Nc (p + 8) (sA x w (p + 2)).1.1 (sA x w (p + 2)).1.2 (sA x w (p + 2)).2.1 (sA x w (p + 2)).2.2).2)
def rE(fn:Int)(x:Int×Int)(w p:Int):(Int×Int)×(Int×Int):=bif fn==1 then(sA x w (p+2)).1 else bif fn==2 then(sA x w (p+2)).2 else rQ x w p
theorem aEV{x:Int×Int}(h:x.1≠0):aW.jU x=bC x:=by unfold aW.jU bC;rw[if_neg h]
theorem aWV{x:gW}{p:Int}(hx:aU x)(hp:1<=p/\p<=67100)(ht:-1200<=bC (dv x))(n:bED (dv x) p):fU.aTH x p:=by
 refine⟨hx,hp,fun h0=>?_⟩;rw[aEV h0];refine⟨by omega,n.pl,n.ph,mI.2 ?_,n.bLK,n.okB⟩;have h1:=n.lo;have h2:=n.hi;have h3:=R.dW (bC (dv x)-p-270);grind
theorem aYE{x:gW}{p:Int}(hx:aU x)(hp:1<=p/\p<=67100)(ht:(dv x).1≠0->-1200<=bC (dv x))(n:bKV (dv x) p):bM.aJX x p:=by
 refine⟨hx,hp,fun h0=>?_⟩;have:=ht h0;rw[aEV h0];exact⟨by omega,n.bLK h0,n.okB h0⟩
theorem Vp(a b:Int×Int):dv (cU.aBI (iR (nV a b)))=((a.1.natAbs:Int),a.2):=by
 show((M6.val (M6.dg a.1.natAbs):Int),a.2)=_;rw[M6.bD]
theorem Vq(a b:Int×Int):dv (cU.aBI (iS (nV a b)))=((b.1.natAbs:Int),b.2):=by
 show((M6.val (M6.dg b.1.natAbs):Int),b.2)=_;rw[M6.bD]
theorem We{x:gW}(hx:aU x):aU (cU.aBI x):=⟨⟨hx.1.1,fun hf=>(by cases hf),hx.1.len⟩,hx.2⟩
theorem uN(p:Int×Int):R.ab (R.qz ((p.1.natAbs:Int),p.2))=R.ab (R.qz p):=by rw[Ep,R.bR (R.aP _)]
theorem Zk{a b:Int×Int}(hs:fY.uG a b≠0)(ha:kT a)(hb:kT b) :
  (aU (cU.Bt (nV a b))/\aU (cU.uW (nV a b))) /\
  ((R.ab (R.qz b)<R.ab (R.qz a)/\dv (cU.Bt (nV a b))=((a.1.natAbs:Int),a.2)/\dv (cU.uW (nV a b))=((b.1.natAbs:Int),b.2)) \/
  (R.ab (R.qz a)<=R.ab (R.qz b)/\dv (cU.Bt (nV a b))=((b.1.natAbs:Int),b.2)/\dv (cU.uW (nV a b))=((a.1.natAbs:Int),a.2))):=by
 have oa:aU (iR (nV a b)):=dV ha;have ob:aU (iS (nV a b)):=dV hb;unfold cU.Bt cU.uW;rw[qE,qF,show(fY.uG a b==0)=false from beq_eq_false_iff_ne.2 hs,cond_false,Vp,Vq];have hc:=zL (p:=((a.1.natAbs:Int),a.2)) (q:=((b.1.natAbs:Int),b.2));rw[Ep,Ep]at hc
 by_cases h:R.ab (R.qz b)<R.ab (R.qz a)
 ·rw[decide_eq_true (hc.2 h),cond_true,cond_true,Vp,Vq];exact⟨⟨We oa,We ob⟩,Or.inl ⟨h,rfl,rfl⟩⟩
 ·rw[decide_eq_false (fun hh=>h (hc.1 hh)),cond_false,cond_false,Vp,Vq];exact⟨⟨We ob,We oa⟩,Or.inr ⟨Rat.not_lt.1 h,rfl,rfl⟩⟩
theorem aTE{a:Int×Int}{x:gW}(hx:aU x)(e:dv x=a)(h1:R.ab (R.qz a)<=1)(ht:a.1≠0->-1200<=bC a):tB.Rv x:=by
 refine⟨hx,fun h0=>?_⟩;rw[e]at h0 ⊢;have:=ht h0;refine⟨mI.2 (by rw[Ep,qP];exact h1),?_⟩;unfold bC at this;omega
structure cAY(x:Int×Int)(p:Int)(r:Rat):Prop where
 so:nR.Xn (bDG x (p+80)) (p+12)
 co:cU.aDN (bDG x (p+80)) (p+12)
 s:Bx (rS x (p+80) (p+14)) (R.sn r) (R.pz (-p-12)*R.ab (R.sn r)) (mg p)
 c:Bx (rC x (p+80) (p+14)) (R.cs r) (R.pz (-p-12)*R.ab (R.cs r)) (mg p)
 s1:R.ab (R.qz (rS x (p+80) (p+14)).1)<=1/\R.ab (R.qz (rS x (p+80) (p+14)).2)<=1
 c1:R.ab (R.qz (rC x (p+80) (p+14)).1)<=1/\R.ab (R.qz (rC x (p+80) (p+14)).2)<=1
theorem aOD{s:(Int×Int)×(Int×Int)}{V W m:Rat}(h:Bx s V W m)(h1:-1<=R.qz s.1)(h2:R.qz s.2<=1):R.ab (R.qz s.1)<=1/\R.ab (R.qz s.2)<=1:=by
 have:=h.lo;have:=h.hi;have:=h.m0;constructor <;> (rw[R.cN];constructor <;> grind)
def gS(l h:Int×Int)(q:Int):(Int×Int)×(Int×Int):=(fU.Mr l q,fU.Ms h q)
def gC(l h:Int×Int)(q:Int):(Int×Int)×(Int×Int):=(bM.tT (dv (cU.Bt (nV l h))) q,bM.sZ (dv (cU.uW (nV l h))) q)
structure bQD(l h:Int×Int)(p n:Int)(r:Rat):Prop where
 so:nR.Xn (nV l h) (n-2)
 co:cU.aDN (nV l h) (n-2)
 s:Bx (gS l h n) (R.sn r) (R.pz (-p-12)*R.ab (R.sn r)) (mg p)
 c:Bx (gC l h n) (R.cs r) (R.pz (-p-12)*R.ab (R.cs r)) (mg p)
 s1:R.ab (R.qz (gS l h n).1)<=1/\R.ab (R.qz (gS l h n).2)<=1
 c1:R.ab (R.qz (gC l h n).1)<=1/\R.ab (R.qz (gC l h n).2)<=1
theorem aMA{l h:Int×Int}{p n:Int}{r:Rat}(hp:-6<=p/\p<=66000)(hn:p+14<=n/\n<=p+150/\3<=n)(pl:kT l)(ph:kT h)(lo:R.qz l<=r)(hi:r<=R.qz h)(wd:R.qz h-R.qz l<=R.pz (-p-23)*R.ab r)(rg:R.pz (-1074)<=R.ab r)(nl:R.ab r<=79/100):bQD l h p n r:=by
 have aCQ:p+14<=n/\n<=p+150/\1<=n:=by omega
 have bUE:=aZE hp.1;have rp:0<R.ab r:=by have:=R.dW (-1074);grind
 have m:=R.aJ (cGL rp) (show 0<=1/131072-R.pz (-p-23) by grind);have tok:∀q:Int,q=n-2->(1<=q/\q<=67000):=fun q hq=>by omega
 have oa:aU (iR (nV l h)):=dV pl;have ob:aU (iS (nV l h)):=dV ph;have ea:dv (iR (nV l h))=l:=qE _ _;have eb:dv (iS (nV l h))=h:=qF _ _;have sk:fA (nV l h):=yW pl ph (mI.2 (by grind));have aLI:n-2+2=n:=by omega
 have fin:∀(a:Rat),a=R.ab r->R.ab (R.qz l)<=4/5->R.ab (R.qz h)<=4/5 ->
   (l.1≠0/\-1075<=bC l)->(h.1≠0/\-1075<=bC h) ->
   bED l n->bED h n ->
   mJ (dv (cU.uW (nV l h))) (dv (cU.Bt (nV l h))) a p->aU (cU.Bt (nV l h))->aU (cU.uW (nV l h)) ->
   Bx (gS l h n) (R.sn r) (R.pz (-p-12)*R.ab (R.sn r)) (mg p)->-1<=R.qz (gS l h n).1->R.qz (gS l h n).2<=1->bQD l h p n r:=by
  intro a ha l1 l2 t1 t2 n1 n2 par of on bs b1 b2;obtain⟨cu,cv,cb⟩:=bBU par hp aCQ;obtain⟨_,_,_,_,_,_,tu,tv⟩:=par.more hp.1;have ec:R.cs a=R.cs r:=by rw[ha];exact R.aQN r
  rw[ec]at cb;refine⟨⟨⟨tok _ rfl,sk,aTE oa ea (by grind) (fun _=>by omega),aTE ob eb (by grind) (fun _=>by omega)⟩,?_,?_⟩,⟨⟨tok _ rfl,sk,aTE oa ea (by grind) (fun _=>by omega),aTE ob eb (by grind) (fun _=>by omega)⟩,?_,?_⟩,bs,cb,aOD bs b1 b2,aOD cb ?_ cu.one⟩
  ·rw[aLI];exact aWV oa (by omega) (by rw[ea];omega) (by rw[ea];exact n1)
  ·rw[aLI];exact aWV ob (by omega) (by rw[eb];omega) (by rw[eb];exact n2)
  ·rw[aLI];exact aYE of (by omega) (fun _=>by omega) cv
  ·rw[aLI];exact aYE on (by omega) (fun _=>by omega) cu
  ·have h1:=cb.wd;have h2:=cb.hi;have h3:=cb.m0;obtain⟨c1,c2⟩:=R.Zt (r:=r) (by grind);rw[R.bR (show 0<=R.cs r by grind)]at h1;have z12:R.pz (-p-12)<=1:=by rw[<-R.gR];exact R.cX (by omega)
   have:=R.aJ (show 0<=R.cs r by grind) (show 0<=1-R.pz (-p-12) by grind);show -1<=R.qz (bM.tT (dv (cU.Bt (nV l h))) n);dsimp only at h1 h2;grind
 have t75:R.pz (-1075)*2=R.pz (-1074):=by have:=R.sE (-1074);rw[show(-1074:Int)-1=-1075 by rfl]at this;exact this
 by_cases c:0<r
 ·have er:R.ab r=r:=R.bR (cGL c);rw[er]at nl wd rg rp m;have al:R.ab (R.qz l)=R.qz l:=R.bR (by grind);have ah:R.ab (R.qz h)=R.qz h:=R.bR (by grind);have par:mJ l h r p:=⟨pl,ph,rg,nl,by rw[al];exact lo,by rw[ah];exact hi,by rw[al,ah];exact wd⟩;obtain⟨_,_,_,v2,aEP,aKQ,tu,tv⟩:=par.more hp.1;obtain⟨nu,nv,bs⟩:=aMZ par hp aCQ;have sg:fY.uG l h≠0:=by rw[Mu (by grind) (by grind)];decide
  obtain⟨⟨of,on⟩,hd⟩:=Zk sg pl ph;have n1:isNeg l.1=false:=iH.2 (by have:=jI.1 (show 0<R.qz l by grind);omega);have n2:isNeg h.1=false:=iH.2 (by have:=jI.1 (show 0<R.qz h by grind);omega);have eS:gS l h n=(fU.vO l n,fU.uF h n):=by
   unfold gS fU.Mr fU.Ms;rw[if_neg aEP,if_neg aKQ,n1,n2];rfl
  refine fin r er.symm (by grind) (by grind) ⟨aEP,tu⟩ ⟨aKQ,tv⟩ nu nv ?_ of on (by rw[eS];exact bs) ?_ ?_
  ·rcases hd with ⟨d1,d2,d3⟩ |⟨d1,d2,d3⟩
   ·grind
   ·show mJ (dv (cU.uW (nV _ _))) (dv (cU.Bt (nV _ _))) r p;rw[d2,d3];exact⟨zA pl,zA ph,rg,nl,by rw[uN,al];exact lo,by rw[uN,ah];exact hi,by rw[uN,uN,al,ah];exact wd⟩
  ·rw[eS];have:=nu.pos;dsimp only;grind
  ·rw[eS];exact nv.one
 ·have er:R.ab r=-r:=by
   unfold R.ab
   by_cases hr:0<=r
   ·have:r=0:=by grind
    rw[this,R.bR cHS]at rp;grind
   ·rw[if_neg hr]
  rw[er]at nl wd rg rp m;have al:R.ab (R.qz l)=-R.qz l:=by rw[<-R.jM];exact R.bR (by grind)
  have ah:R.ab (R.qz h)=-R.qz h:=by rw[<-R.jM];exact R.bR (by grind)
  have par:mJ h l (-r) p:=⟨ph,pl,rg,nl,by rw[ah];grind,by rw[al];grind,by rw[al,ah];grind⟩;obtain⟨_,_,_,v2,aEP,aKQ,tu,tv⟩:=par.more hp.1;obtain⟨nu,nv,bs⟩:=aMZ par hp aCQ;have sg:fY.uG l h≠0:=by rw[aBS (by grind)];decide
  obtain⟨⟨of,on⟩,hd⟩:=Zk sg pl ph;have n1:isNeg l.1=true:=lT.2 (yX.1 (by grind));have n2:isNeg h.1=true:=lT.2 (yX.1 (by grind));have eS:gS l h n=(lD.yC (fU.uF l n),lD.yC (fU.vO h n)):=by
   unfold gS fU.Mr fU.Ms;rw[if_neg aEP,if_neg aKQ,n1,n2];rfl
  have bn:=bs.neg;have es:-R.sn (-r)=R.sn r:=by rw[R.Hr];grind
  have cAG:R.ab (R.sn (-r))=R.ab (R.sn r):=by rw[R.Hr,R.jM]
  rw[es,cAG]at bn;refine fin (-r) er.symm (by grind) (by grind) ⟨aKQ,tv⟩ ⟨aEP,tu⟩ nv nu ?_ of on (by rw[eS];exact bn) ?_ ?_
  ·show mJ (dv (cU.uW (nV _ _))) (dv (cU.Bt (nV _ _))) (-r) p;rcases hd with ⟨d1,d2,d3⟩ |⟨d1,d2,d3⟩
   ·rw[d2,d3];exact⟨zA ph,zA pl,rg,nl,by rw[uN,ah];grind,by rw[uN,al];grind,by rw[uN,uN,al,ah];grind⟩
   ·rw[d2,d3];exact⟨zA pl,zA ph,rg,nl,by rw[uN,al];grind,by rw[uN,ah];grind,by rw[uN,uN,al,ah];grind⟩
  ·rw[eS];show -1<=R.qz (-(fU.uF l n).1,(fU.uF l n).2);rw[pD];have:=nv.one;grind
  ·rw[eS];show R.qz (-(fU.vO h n).1,(fU.vO h n).2)<=1;rw[pD];have:=nu.pos;grind
theorem aYR{x:Int×Int}{p k:Int}(hp:1<=p/\p<=66000)(h:bCL x (p+80) k):cAY x p (R.qz x-(k:Rat)*(R.pi/2)):=by
 have nl:=R.mP h.aCF;obtain⟨_,_,pl,ph,lo,hi,wd,rg⟩:=h;rw[show 57-(p+80)=-p-23 by omega]at wd;obtain⟨a,b,c,d,e,f⟩:=aMA (n:=p+14) ⟨by omega,hp.2⟩ (by omega) pl ph lo hi wd rg nl;rw[show p+14-2=p+12 by omega]at a b;exact⟨a,b,c,d,e,f⟩
end M
namespace M
open Go AI W
theorem Ub{up:Bool}{p:Int×Int}{n:Int}(hn:1<=n)(h:R.ab (R.qz p)<=1):R.ab (R.qz (shD up p n))<=1:=by
 unfold shD cV.oY;rw[pC];split
 ·exact h
 ·rename_i hk;dsimp only;have h0:p.1≠0:=by
   intro hz;rw[hz]at hk;exact hk (by show(bl 0:Int)-n<=0;rw[Vx];omega)
  have ht:=Ft h0 (by rw[R.gR];exact h);unfold bC at ht;obtain⟨k,Zb⟩:=cGG (show 0<=(bl p.1.natAbs:Int)-n by omega);rw[Zb,cFB];obtain⟨j,hj⟩:=cGG (show 0<=-(p.2+(k:Int)) by omega);have hz:p.1.natAbs<=2^j*2^k:=by
   rw[Tl]at h;rw[<-cGE];have e1:R.pz p.2*((2^(j+k):Nat):Rat)=1:=by rw[<-R.eN,show p.2+((j+k:Nat):Int)=0 by omega,R.gR]
   have P:(0:Rat)<=((2^(j+k):Nat):Rat):=by exact_mod_cast cHH _
   have m:=R.aJ P (show 0<=1-(p.1.natAbs:Rat)*R.pz p.2 by grind);have:(p.1.natAbs:Rat)<=((2^(j+k):Nat):Rat):=by
    have e2:((2^(j+k):Nat):Rat)*((p.1.natAbs:Rat)*R.pz p.2)=(p.1.natAbs:Rat):=by
     rw[Rat.mul_comm,cMO,e1];grind
    grind
   exact_mod_cast this
  have hp:(0:Int)<((2^k:Nat):Int):=by have:=cEE (n:=k) (show 0<2 by decide);omega
  have bRG:(p.1.natAbs:Int)<=((2^j:Nat):Int)*((2^k:Nat):Int):=by exact_mod_cast hz
  have hc:-((2^j:Nat):Int)<=lL.qU up p.1 k/\lL.qU up p.1 k<=((2^j:Nat):Int):=by
   have fl:∀w:Int,(w.natAbs:Int)<=((2^j:Nat):Int)*((2^k:Nat):Int)->-((2^j:Nat):Int)<=w/((2^k:Nat):Int)/\w/((2^k:Nat):Int)<=((2^j:Nat):Int):=by
    intro w hw;constructor
    ·refine Int.le_ediv_of_mul_le hp ?_;rw[Int.neg_mul];omega
    ·exact Int.ediv_le_of_le_mul hp (by omega)
   unfold lL.qU;cases up with
   |false=>rw[cond_false];exact fl _ bRG
   |true =>
    rw[cond_true];have:=fl (-p.1) (by rw[cHY];exact bRG);omega
  generalize lL.qU up p.1 k=c at *;have e1:R.pz (p.2+(k:Int))*((2^j:Nat):Rat)=1:=by rw[<-R.eN,show p.2+(k:Int)+(j:Int)=0 by omega,R.gR]
  have pp:=R.dW (p.2+(k:Int));have c1:-((2^j:Nat):Rat)<=(c:Rat):=by
   have:((-((2^j:Nat):Int):Int):Rat)<=(c:Rat):=by exact_mod_cast hc.1
   rwa [cOF,cMQ]at this
  have c2:(c:Rat)<=((2^j:Nat):Rat):=by
   have:(c:Rat)<=(((2^j:Nat):Int):Rat):=by exact_mod_cast hc.2
   rwa [cMQ]at this
  have m1:=R.aJ (cGL pp) (show 0<=(c:Rat)+((2^j:Nat):Rat) by grind);have m2:=R.aJ (cGL pp) (show 0<=((2^j:Nat):Rat)-(c:Rat) by grind);rw[R.cN];constructor <;> grind
def On(s:(Int×Int)×(Int×Int)):Prop:=R.ab (R.qz s.1)<=1/\R.ab (R.qz s.2)<=1
theorem On.neg{s:(Int×Int)×(Int×Int)}(h:On s):On (lD.yC s.2,lD.yC s.1):=by
 constructor
 ·show R.ab (R.qz (-s.2.1,s.2.2))<=1;rw[pD,R.jM];exact h.2
 ·show R.ab (R.qz (-s.1.1,s.1.2))<=1;rw[pD,R.jM];exact h.1
theorem On.trn{s c:(Int×Int)×(Int×Int)}(hs:On s)(hc:On c):∀n:Nat,On (VTurned.trn s c n).1/\On (VTurned.trn s c n).2:=by
 intro n
 induction n generalizing s c with
 |zero=>exact⟨hs,hc⟩
 |succ n ih=>exact ih hc hs.neg
theorem Iy{s:(Int×Int)×(Int×Int)}{V ρ m:Rat}(h:Bx s V (ρ*R.ab V) m)(r1:ρ<=1/64)(V0:V≠0) :
  63/64*R.ab V<=R.ab (R.qz s.1)/\R.ab (R.qz s.1)<=65/64*R.ab V/\63/64*R.ab V<=R.ab (R.qz s.2)/\R.ab (R.qz s.2)<=65/64*R.ab V/\(0<V->0<R.qz s.1)/\(V<0->R.qz s.2<0)/\0<R.ab V:=by
 obtain⟨_,_,_,_,m0,lo,hi,wd⟩:=h;have a0:0<R.ab V:=by
  unfold R.ab;split <;> grind
 have k:=R.aJ (cGL a0) (show 0<=1/64-ρ by grind);generalize hρ:ρ*R.ab V=W at *
 by_cases c:0<V
 ·have e:R.ab V=V:=R.bR (cGL c);rw[e]at a0 k hρ;rw[e];rw[R.bR (show 0<=R.qz s.1 by grind),R.bR (show 0<=R.qz s.2 by grind)];refine⟨by grind,by grind,by grind,by grind,fun _=>by grind,fun _=>by grind,c⟩
 ·have e:R.ab V=-V:=by unfold R.ab;rw[if_neg (by grind)]
  rw[e]at a0 k hρ;rw[e];rw[<-R.jM,R.bR (show 0<=-R.qz s.1 by grind),<-R.jM,R.bR (show 0<=-R.qz s.2 by grind)];refine⟨by grind,by grind,by grind,by grind,fun _=>by grind,fun _=>by grind,by grind⟩
theorem yJ{s:(Int×Int)×(Int×Int)}{V W W' m:Rat}(h:Bx s V W m)(hw:W<=W'):Bx s V W' m:=by
 obtain⟨a,b,c,d,e,f,g,i⟩:=h;exact⟨a,b,c,d,e,f,g,cGJ i hw⟩
def eE(fn:Int)(x:Int×Int)(p:Int):(Int×Int)×(Int×Int):=(shD false (rE fn x (p+80) (p+12)).1 (p+20),shD true (rE fn x (p+80) (p+12)).2 (p+20))
structure bJA(fn:Int)(x:Int×Int)(p k:Int):Prop where
 so:nR.Xn (bDG x (p+80)) (p+12)
 co:cU.aDN (bDG x (p+80)) (p+12)
 sS:fA (nV (rS x (p+80) (p+14)).1 (rS x (p+80) (p+14)).2)
 sC:fA (nV (rC x (p+80) (p+14)).1 (rC x (p+80) (p+14)).2)
 t1:fA (nV (sA x (p+80) (p+14)).1.1 (sA x (p+80) (p+14)).1.2)
 t2:fA (nV (sA x (p+80) (p+14)).2.1 (sA x (p+80) (p+14)).2.2)
 z:Ks (sA x (p+80) (p+14)).1.1/\Ks (sA x (p+80) (p+14)).1.2/\Ks (sA x (p+80) (p+14)).2.1/\Ks (sA x (p+80) (p+14)).2.2
 q0:fY.uG (sA x (p+80) (p+14)).2.1 (sA x (p+80) (p+14)).2.2≠0
 q1:iQ (jV.Nb (p+20) (sA x (p+80) (p+14)).1.1 (sA x (p+80) (p+14)).1.2 (sA x (p+80) (p+14)).2.1 (sA x (p+80) (p+14)).2.2).1 (jV.Nb (p+20) (sA x (p+80) (p+14)).1.1 (sA x (p+80) (p+14)).1.2 (sA x (p+80) (p+14)).2.1 (sA x (p+80) (p+14)).2.2).2=true
 q2:iQ (jV.Nc (p+20) (sA x (p+80) (p+14)).1.1 (sA x (p+80) (p+14)).1.2 (sA x (p+80) (p+14)).2.1 (sA x (p+80) (p+14)).2.2).1 (jV.Nc (p+20) (sA x (p+80) (p+14)).1.1 (sA x (p+80) (p+14)).1.2 (sA x (p+80) (p+14)).2.1 (sA x (p+80) (p+14)).2.2).2=true
 re:fA (nV (rE fn x (p+80) (p+12)).1 (rE fn x (p+80) (p+12)).2)
 s1:yR false (rE fn x (p+80) (p+12)).1 (p+20)=true
 s2:yR true (rE fn x (p+80) (p+12)).2 (p+20)=true
 v0:R.fv fn (R.qz x) k≠0
 vl:R.pz (-1100)<=R.ab (R.fv fn (R.qz x) k)
 vh:R.ab (R.fv fn (R.qz x) k)<=R.pz 1090
 bx:Bx (eE fn x p) (R.fv fn (R.qz x) k) (R.pz (-p-8)*R.ab (R.fv fn (R.qz x) k)) (mg p)
 bits:(bl (eE fn x p).1.1.natAbs:Int)<=p+21/\(bl (eE fn x p).2.1.natAbs:Int)<=p+21
 ok:bS.lA (eE fn x p).2 (-(eE fn x p).1.1,(eE fn x p).1.2)=true
 thin:Hd.bDF (eE fn x p).1 (eE fn x p).2 p=true
 on:fn<=2->On (eE fn x p)
theorem uX{p:Int×Int}(h:0<R.ab (R.qz p)):p.1≠0:=Jv fun hz=>by rw[hz,R.bR cHS]at h;exact Rat.lt_irrefl h
theorem aFM(k:Int)(s c:Rat):R.ab (R.rs k s c)=if k%2=0 then R.ab s else R.ab c:=by
 have h4:k%4=0\/k%4=1\/k%4=2\/k%4=3:=by omega
 unfold R.rs;rcases h4 with h |h |h |h
 ·have h2:k%2=0:=by omega
  simp[h,h2,R.jM]
 ·have h2:k%2=1:=by omega
  simp[h,h2,R.jM]
 ·have h2:k%2=0:=by omega
  simp[h,h2,R.jM]
 ·have h2:k%2=1:=by omega
  simp[h,h2,R.jM]
theorem aFP(k:Int)(s c:Rat):R.ab (R.rc k s c)=if k%2=0 then R.ab c else R.ab s:=by
 have h4:k%4=0\/k%4=1\/k%4=2\/k%4=3:=by omega
 unfold R.rc;rcases h4 with h |h |h |h
 ·have h2:k%2=0:=by omega
  simp[h,h2,R.jM]
 ·have h2:k%2=1:=by omega
  simp[h,h2,R.jM]
 ·have h2:k%2=0:=by omega
  simp[h,h2,R.jM]
 ·have h2:k%2=1:=by omega
  simp[h,h2,R.jM]
theorem xJ{fn:Int}{x:Int×Int}{p k:Int}(hx:aEJ x)(hp:1<=p/\p<=66000)(hf:1<=fn/\fn<=3)(h:bCL x (p+80) k):bJA fn x p k:=by
 obtain⟨so,co,bs,bc,os,oc⟩:=aYR hp h;have rn:=R.mP h.aCF;have rg:=h.rg;have hq:=h.q;obtain⟨r,hr⟩:∃r,r=R.qz x-(k:Rat)*(R.pi/2):=⟨_,rfl⟩;have bPP:R.Sf (R.qz x) k=R.rs k (R.sn r) (R.cs r):=by rw[hr];rfl
 have bPQ:R.Cf (R.qz x) k=R.rc k (R.sn r) (R.cs r):=by rw[hr];rfl
 rw[<-hr]at bs bc rn rg;have t75:R.pz (-1075)*2=R.pz (-1074):=by have:=R.sE (-1074);rw[show(-1074:Int)-1=-1075 by rfl]at this;exact this
 have bLF:=R.dW (-1075);have bVO:R.pz (-1075)<=1/2:=by
  have:=R.cX (show(-1074:Int)<=0 by omega);rw[R.gR]at this;grind
 obtain⟨c1,c2⟩:=R.Zt (r:=r) (by grind);have s0:R.pz (-1075)<=R.ab (R.sn r)/\R.ab (R.sn r)<=1:=by
  rw[<-R.aMX (by grind)];obtain⟨a,b⟩:=R.aFD (R.aP r) (by grind);constructor <;> grind
 have s1:R.pz (-1075)<=R.ab (R.cs r)/\R.ab (R.cs r)<=1:=by
  rw[R.bR (show 0<=R.cs r by grind)];constructor <;> grind
 have sS:R.pz (-1075)<=R.ab (R.Sf (R.qz x) k)/\R.ab (R.Sf (R.qz x) k)<=1:=by
  rw[bPP,aFM];split <;> assumption
 have sC:R.pz (-1075)<=R.ab (R.Cf (R.qz x) k)/\R.ab (R.Cf (R.qz x) k)<=1:=by
  rw[bPQ,aFP];split <;> assumption
 have Nm:∀v:Rat,R.pz (-1075)<=R.ab v->v≠0:=fun v hv hz=>by rw[hz,R.bR cHS]at hv;grind
 have S0:=Nm _ sS.1;have C0:=Nm _ sC.1;obtain⟨z,hz⟩:∃z,z=R.pz (-p-20):=⟨_,rfl⟩;have z0:=R.dW (-p-20);rw[<-hz]at z0;have pw:∀(a:Int) (n:Nat) (c:Rat),a=-p-20+(n:Int)->((2^n:Nat):Rat)=c->R.pz a=c*z:=fun a n c ha hc=>by
  rw[ha,R.eN,hc,hz];grind
 have bIE:=pw (-p-12) 8 256 (by omega) (by norm_cast);have e8:=pw (-p-8) 12 4096 (by omega) (by norm_cast);have bKR:=pw (1-(p+20)) 1 2 (by omega) (by norm_cast);have bPT:=pw (2-(p+20)) 2 4 (by omega) (by norm_cast);have zs:z<=1/2097152:=by
  have:=R.cX (show -p-20<=-21 by omega);have e:=R.gL 0 (n:=21) (c:=2097152) (by norm_cast);rw[R.gR,show(0:Int)-((21:Nat):Int)=-21 by rfl]at e;grind
 obtain⟨b1,b2⟩:=Bx.trn bs bc (k:=k);have eT:sA x (p+80) (p+14)=VTurned.trn (rS x (p+80) (p+14)) (rC x (p+80) (p+14)) (k%4).toNat:=by unfold sA;rw[hq]
 rw[<-eT,<-bPP]at b1;rw[<-eT,<-bPQ]at b2;have aZO:=On.trn os oc (k%4).toNat;rw[<-eT]at aZO;have b1:Bx (sA x (p+80) (p+14)).1 (R.Sf (R.qz x) k) (R.pz (-p-12)*R.ab (R.Sf (R.qz x) k)) (mg p):=by
  refine yJ b1 ?_;rw[bPP,aFM];split <;> exact cHS
 have b2:Bx (sA x (p+80) (p+14)).2 (R.Cf (R.qz x) k) (R.pz (-p-12)*R.ab (R.Cf (R.qz x) k)) (mg p):=by
  refine yJ b2 ?_;rw[bPQ,aFP];split <;> exact cHS
 rw[bIE]at b1 b2;have bUP:=bs.Aw;have bUO:=bc.Aw;have n1:=Iy b1 (by grind) S0;have n2:=Iy b2 (by grind) C0;have bHY:R.pz (-1300)<=R.pz (-1075)/2:=by
  have:=R.sE (-1075);have:=R.cX (show(-1300:Int)<=-1075-1 by omega);grind
 have z1:Ks (sA x (p+80) (p+14)).1.1:=Az b1.bl (uX (by grind)) (by grind) (by grind);have z2:Ks (sA x (p+80) (p+14)).1.2:=Az b1.bh (uX (by grind)) (by grind) (by grind);have z3:Ks (sA x (p+80) (p+14)).2.1:=Az b2.bl (uX (by grind)) (by grind) (by grind);have z4:Ks (sA x (p+80) (p+14)).2.2:=Az b2.bh (uX (by grind)) (by grind) (by grind);have bHT:R.Sf (R.qz x) k/R.Cf (R.qz x) k*R.Cf (R.qz x) k=R.Sf (R.qz x) k:=by grind
 obtain⟨q0,q1,q2,bq⟩:=aNF (p:=p+20) b1 b2 S0 C0 sC.2 (by grind) (by grind) bHT (by omega) z1 z2 z3 z4;rw[bPT]at bq;have aV:R.ab (R.Sf (R.qz x) k/R.Cf (R.qz x) k)*R.ab (R.Cf (R.qz x) k)=R.ab (R.Sf (R.qz x) k):=by rw[<-R.fX,bHT]
 have bVS:R.pz (-1075)*R.pz 1075=1:=by rw[<-R.kS];exact R.gR
 have cAZ:1<=R.pz 1075:=by rw[<-R.gR];exact R.cX (by omega)
 have tV:R.pz (-1075)<=R.ab (R.Sf (R.qz x) k/R.Cf (R.qz x) k)/\R.ab (R.Sf (R.qz x) k/R.Cf (R.qz x) k)<=R.pz 1075:=by
  have a0:=R.aP (R.Sf (R.qz x) k/R.Cf (R.qz x) k);generalize R.ab (R.Sf (R.qz x) k/R.Cf (R.qz x) k)=a at *;constructor
  ·have:=R.aJ a0 (show 0<=1-R.ab (R.Cf (R.qz x) k) by grind);grind
  ·refine R.cK bLF ?_;have:=R.aJ a0 (show 0<=R.ab (R.Cf (R.qz x) k)-R.pz (-1075) by grind);grind
 have bQC:=Nm _ tV.1;obtain⟨bE,vl,vh,V0,oE⟩:Bx (rE fn x (p+80) (p+12)) (R.fv fn (R.qz x) k) (2048*z*R.ab (R.fv fn (R.qz x) k)) (mg p)/\R.pz (-1075)<=R.ab (R.fv fn (R.qz x) k)/\R.ab (R.fv fn (R.qz x) k)<=R.pz 1075/\R.fv fn (R.qz x) k≠0/\(fn<=2->On (rE fn x (p+80) (p+12))):=by
  have aLI:p+12+2=p+14:=by omega
  have bPS:p+12+8=p+20:=by omega
  have h3:fn=1\/fn=2\/fn=3:=by omega
  rcases h3 with rfl |rfl |rfl
  ·have a:R.fv 1 (R.qz x) k=R.Sf (R.qz x) k:=rfl;have b:rE 1 x (p+80) (p+12)=(sA x (p+80) (p+14)).1:=by unfold rE;rw[aLI];rfl
   rw[a,b];exact⟨yJ b1 (by have:=R.aJ (cGL z0) (R.aP (R.Sf (R.qz x) k));grind),sS.1,by grind,S0,fun _=>aZO.1⟩
  ·have a:R.fv 2 (R.qz x) k=R.Cf (R.qz x) k:=rfl;have b:rE 2 x (p+80) (p+12)=(sA x (p+80) (p+14)).2:=by unfold rE;rw[aLI];rfl
   rw[a,b];exact⟨yJ b2 (by have:=R.aJ (cGL z0) (R.aP (R.Cf (R.qz x) k));grind),sC.1,by grind,C0,fun _=>aZO.2⟩
  ·have a:R.fv 3 (R.qz x) k=R.Sf (R.qz x) k/R.Cf (R.qz x) k:=rfl;have b:rE 3 x (p+80) (p+12)=rQ x (p+80) (p+12):=rfl;rw[a,b];unfold rQ;rw[aLI,bPS];exact⟨yJ bq (by have:=R.aJ (cGL z0) (R.aP (R.Sf (R.qz x) k/R.Cf (R.qz x) k));grind),tV.1,tV.2,bQC,fun h=>absurd h (by decide)⟩
 have nE:=Iy bE (by grind) V0;have bIU:2*R.pz 1075<=R.pz 1100:=by rw[<-R.lO];exact R.cX (by omega)
 obtain⟨bLA,bKZ,bO⟩:=aCB (n:=p+20) bE (by omega) (by grind) (by grind);rw[bKR]at bO;have bX:Bx (eE fn x p) (R.fv fn (R.qz x) k) (4096*z*R.ab (R.fv fn (R.qz x) k)) (mg p):=by
  refine yJ bO ?_;have k1:=R.aJ (cGL z0) (show 0<=65/64*R.ab (R.fv fn (R.qz x) k)-R.ab (R.qz (rE fn x (p+80) (p+12)).1) by grind);have k2:=R.aJ (cGL z0) (show 0<=65/64*R.ab (R.fv fn (R.qz x) k)-R.ab (R.qz (rE fn x (p+80) (p+12)).2) by grind);have k3:=R.aJ (cGL z0) (R.aP (R.fv fn (R.qz x) k));grind
 have nX:=Iy bX (by grind) V0;have g1:=Ba false (rE fn x (p+80) (p+12)).1 (p+20).toNat;have g2:=Ba true (rE fn x (p+80) (p+12)).2 (p+20).toNat;rw[show(((p+20).toNat:Nat):Int)=p+20 by omega]at g1 g2;have m1:(eE fn x p).1.1≠0:=uX (by grind);have m2:(eE fn x p).2.1≠0:=uX (by grind);have x1:=Lb (up:=false) (p:=(rE fn x (p+80) (p+12)).1) (n:=p+20) m1;have x2:=Lb (up:=true) (p:=(rE fn x (p+80) (p+12)).2) (n:=p+20) m2;have bHZ:R.pz (-1076)<=63/64*R.pz (-1075):=by
  have:=R.sE (-1075);rw[show(-1075:Int)-1=-1076 by rfl]at this;grind
 have y1:=Em (p:=(rE fn x (p+80) (p+12)).1) (E:=-1076) (uX (by grind)) (by grind);have y2:=Em (p:=(rE fn x (p+80) (p+12)).2) (E:=-1076) (uX (by grind)) (by grind);refine⟨so,co,bUP,bUO,b1.Aw,b2.Aw,⟨z1,z2,z3,z4⟩,q0,q1,q2,bE.Aw,bLA,bKZ,V0,?_,?_,?_,?_,?_,?_,?_⟩
 ·have:=R.cX (show(-1100:Int)<=-1075 by omega);grind
 ·have:=R.cX (show(1075:Int)<=1090 by omega);grind
 ·rw[e8];exact bX
 ·constructor
  ·show((bl (shD false (rE fn x (p+80) (p+12)).1 (p+20)).1.natAbs:Nat):Int)<=_;omega
  ·show((bl (shD true (rE fn x (p+80) (p+12)).2 (p+20)).1.natAbs:Nat):Int)<=_;omega
 ·have P1200:R.pz 1100<=R.pz (-p-1400+((p+2600).toNat:Nat)):=R.cX (by omega);refine aDW (E:=-p-1400) (n:=(p+2600).toNat) bX.ph bX.pl.Ig ?_ ?_ (by grind) ?_ (by omega) (by omega) (by omega)
  ·show -p-1400<=(shD true (rE fn x (p+80) (p+12)).2 (p+20)).2;omega
  ·show -p-1400<=(shD false (rE fn x (p+80) (p+12)).1 (p+20)).2;omega
  ·rw[pD,R.jM];grind
 ·have bLC:R.pz p*z=1/1048576:=by
   rw[hz,<-R.kS,show p+(-p-20)=-20 by omega];have e:=R.gL 0 (n:=20) (c:=1048576) (by norm_cast);rw[R.gR,show(0:Int)-((20:Nat):Int)=-20 by rfl]at e;grind
  have wd:=bX.wd;have lo:=bX.lo;have hi:=bX.hi;have m0:=bX.m0;have k1:=R.aJ (cGL (R.dW p)) (show 0<=4096*z*R.ab (R.fv fn (R.qz x) k)-(R.qz (eE fn x p).2-R.qz (eE fn x p).1) by grind);have k2:R.pz p*(4096*z*R.ab (R.fv fn (R.qz x) k))=R.ab (R.fv fn (R.qz x) k)/256:=by
   have:R.pz p*(4096*z*R.ab (R.fv fn (R.qz x) k))=4096*(R.pz p*z)*R.ab (R.fv fn (R.qz x) k):=by grind
   rw[this,bLC];grind
  refine aTC (by grind) ?_
  by_cases c:0<R.fv fn (R.qz x) k
  ·left;have s:=nX.2.2.2.2.1 c;rw[R.bR (cGL c)]at *;have e:=R.bR (cGL s);refine⟨s,?_⟩;have:=nX.1;rw[e]at this;grind
  ·right;have s:=nX.2.2.2.2.2.1 (by grind);have e:R.ab (R.qz (eE fn x p).2)=-R.qz (eE fn x p).2:=by rw[<-R.jM,R.bR (by grind)]
   refine⟨s,?_⟩;have:=nX.2.2.1;rw[e]at this;grind
 ·intro h2;exact⟨Ub (by omega) (oE h2).1,Ub (by omega) (oE h2).2⟩
end M
namespace W
open Go AI M
namespace fN
def E:=mE [(83,wY.aI)] 42 [26] [(3,[1])] [3]
def aE:=bd f172
theorem aT:Nk E aE:=nk
def J3 a:=lP E f172 aE 3 [dO a]
theorem start a b c:aF E f172 aE [D.s (sc (int i64 a)),D.s (sc (int u64 b)),D.s (sc (int i64 c))]=letI A:=some [D.s (sc (bool false)),D.s (sc (int i64 1))];aB (decide (a<1)) A (aB (decide (3<a)) A (aB (decide (c<1)) A (aB (decide (66000<c)) A (fN.J3 b)))):=eJ aT
theorem iB a:J3 a=letI A:=bif cD.eZ 64 a then fF.fW (aH.fD 64) (a%9223372036854775808)else(0:Int);letI B:=some [D.s (sc (bool (A==0))),D.s (sc (int i64 6))];aM (((64:Int)=(32:Int)\/(64:Int)=(64:Int))/\0<=a/\a<18446744073709551616) (aB (A==3) B (aB (A==4) B (some [D.s (sc (bool (A==0))),D.s (sc (int i64 (bif cD.eZ 64 a then(0:Int)else(2:Int))))]))):=cJ aT
def Qp(b:Int):Int:=bif cD.eZ 64 b then fF.fW (aH.fD 64) (b%9223372036854775808)else 0
def Xb(fn b p:Int):Int:=if fn<1 then 1 else if 3<fn then 1 else if p<1 then 1 else if 66000<p then 1 else if Qp b=3 then 6 else if Qp b=4 then 6 else bif cD.eZ 64 b then 0 else 2
def aKR(fn b p:Int):Bool:=if fn<1 then false else if 3<fn then false else if p<1 then false else if 66000<p then false else Qp b==0
def sp(fn b p:Int):Prop×List D:=(0<=b/\b<18446744073709551616,[.s (.sc (.bool (aKR fn b p))),.s (.sc (.int .i64 (Xb fn b p)))])
theorem spec:oO E f172 aE (pN .i64) (pN .u64) (pN .i64) sp:=by
 intro fn b p h;refine(start fn b p).trans ?_;unfold sp Xb aKR;dsimp only
 by_cases c1:fn<1
 ·rw[aN c1,if_pos c1,if_pos c1]
 ·rw[aL c1,if_neg c1,if_neg c1]
  by_cases c2:3<fn
  ·rw[aN c2,if_pos c2,if_pos c2]
  ·rw[aL c2,if_neg c2,if_neg c2]
   by_cases c3:p<1
   ·rw[aN c3,if_pos c3,if_pos c3]
   ·rw[aL c3,if_neg c3,if_neg c3]
    by_cases c4:66000<p
    ·rw[aN c4,if_pos c4,if_pos c4]
    ·rw[aL c4,if_neg c4,if_neg c4,iB,gP ⟨Or.inr rfl,h.1,h.2⟩];show aB (Qp b==3) (some [_,_]) (aB (Qp b==4) (some [_,_]) (some [D.s (.sc (.bool (Qp b==0))),_]))=_
     by_cases c5:Qp b=3
     ·rw[bI c5,if_pos c5];rfl
     ·rw[bA c5,if_neg c5]
      by_cases c6:Qp b=4
      ·rw[bI c6,if_pos c6];rfl
      ·rw[bA c6,if_neg c6]
def aI:dJ:=orc3 (pN .i64) (pN .u64) (pN .i64) sp
theorem ok:OK 172 aI:=(eB E aE (aA wY.ok aC) func172).xX rfl spec
end fN
namespace aEB
def E:=mE [(211,bB.aI),(115,nR.aI),(116,cU.aI),(212,VTurned.aI),(119,jV.aI)] 72 [18,29,39,50,69] [] []
def aE:=bd f173
theorem aT:Nk E aE:=nk
theorem start a b c d:aF E f173 aE [D.s (sc (int i64 a)),D.s (sc (int u64 b)),D.s (sc (int i64 c)),D.s (sc (int i64 d))]=letI Z:=sc (int i64 0);letI F:=bB.sW b;letI W:=bB.aBG F c;letI U:=bB.aBF F c;aM ((0<=b/\b<18446744073709551616)/\cD.eZ 64 b=true/\cE.jD 64 b=true/\(1<=c/\c<=66590)/\kT F/\bl F.fst.natAbs<=64/\(-1200:Int)<=F.snd/\F.snd<=1200) (aD (isNeg U.fst) fun e=>aD (M6.dg U.fst.natAbs) fun f=>aD U.snd fun g=>aD (isNeg W.fst) fun h=>aD (M6.dg W.fst.natAbs) fun i=>aD W.snd fun j=>letI G:=(e,f,g,h,i,j);letI P:=fU.Ms (dv (iS G)) (d+2);letI O:=fU.Mr (dv (iR G)) (d+2);letI K:=bM.tT (dv (cU.Bt G)) (d+2);letI I:=bM.sZ (dv (cU.uW G)) (d+2);aM (nR.Xn G d) (aD (isNeg O.fst) fun k=>aD (M6.dg O.fst.natAbs) fun l=>aD O.snd fun m=>aD (isNeg P.fst) fun n=>aD (M6.dg P.fst.natAbs) fun o=>aD P.snd fun p=>letI A1:=(k,l,m,n,o,p);aM (cU.aDN G d) (aD (isNeg K.fst) fun q=>aD (M6.dg K.fst.natAbs) fun r=>aD K.snd fun s=>aD (isNeg I.fst) fun t=>aD (M6.dg I.fst.natAbs) fun u=>aD I.snd fun v=>letI B1:=(q,r,s,t,u,v);letI A:=VTurned.trn (dv (iR A1),dv (iS A1)) (dv (iR B1),dv (iS B1)) (bB.cQ F c).toNat;aM (fA A1/\fA B1/\0<=bB.cQ F c/\bB.cQ F c<=3) (aD (isNeg A.fst.fst.fst) fun w=>aD (M6.dg A.fst.fst.fst.natAbs) fun x=>aD A.fst.fst.snd fun y=>aD (isNeg A.fst.snd.fst) fun z=>aD (M6.dg A.fst.snd.fst.natAbs) fun aa=>aD A.fst.snd.snd fun ab=>letI N:=(w,x,y,z,aa,ab);letI D1:=dv (iS N);letI C1:=dv (iR N);aD (isNeg A.snd.fst.fst) fun ac=>aD (M6.dg A.snd.fst.fst.natAbs) fun ad=>aD A.snd.fst.snd fun ae=>aD (isNeg A.snd.snd.fst) fun af=>aD (M6.dg A.snd.snd.fst.natAbs) fun ag=>aD A.snd.snd.snd fun ah=>letI H:=(ac,ad,ae,af,ag,ah);letI Y:=dv (iS H);letI X:=dv (iR H);letI C:=jV.Nc (i64.wrap (d+8)) C1 D1 X Y;letI T:=aR C.fst C.snd;letI B:=jV.Nb (i64.wrap (d+8)) C1 D1 X Y;letI Q:=aR B.fst B.snd;aB (a==1) (some [D.agg [sc (bool w),ints u64 x,sc (int i64 y),sc (bool z),ints u64 aa,sc (int i64 ab)],D.s Z]) (aB (a==2) (some [D.agg [sc (bool ac),ints u64 ad,sc (int i64 ae),sc (bool af),ints u64 ag,sc (int i64 ah)],D.s Z]) (aM (fA N/\fA H/\(1<=i64.wrap (d+8)/\i64.wrap (d+8)<=70000)/\fY.uG X Y≠0/\(bl C1.fst.natAbs<=262144/\bl D1.fst.natAbs<=262144/\bl X.fst.natAbs<=262144/\bl Y.fst.natAbs<=262144)/\iQ B.fst B.snd=true/\iQ C.fst C.snd=true) (aD (isNeg Q.fst) fun ai=>aD (M6.dg Q.fst.natAbs) fun aj=>aD Q.snd fun ak=>aD (isNeg T.fst) fun al=>aD (M6.dg T.fst.natAbs) fun am=>aD T.snd fun an=>some [D.agg [sc (bool ai),ints u64 aj,sc (int i64 ak),sc (bool al),ints u64 am,sc (int i64 an)],D.s Z]))))))):=eJ aT
def sp(fn b w p:Int):Prop×List D:=((1<=fn/\fn<=3)/\(0<=b/\b<18446744073709551616)/\cD.eZ 64 b=true/\cE.jD 64 b=true/\aEJ (bB.sW b)/\(13<=p/\p<=66012)/\w=p+68,[wZ (rE fn (bB.sW b) w p).1 (rE fn (bB.sW b) w p).2,.s (.sc (.int .i64 0))])
theorem fold(a b:Int×Int):(isNeg a.1,M6.dg a.1.natAbs,a.2,isNeg b.1,M6.dg b.1.natAbs,b.2)=nV a b:=rfl
theorem spec:Rr E f173 aE (pN .i64) (pN .u64) (pN .i64) (pN .i64) sp:=by
 rintro fn b w p ⟨hf,hb,bAE,qA,hx,hp,hw⟩;obtain⟨pp,rfl⟩:∃pp,p=pp+12:=⟨p-12,by omega⟩;obtain rfl:w=pp+80:=by omega
 refine(start fn b (pp+80) (pp+12)).trans ?_;obtain⟨k,hk⟩:=Le (w:=pp+80) hx (by omega);have N:=xJ (fn:=fn) (p:=pp) hx (by omega) hf hk;have q4:0<=bB.cQ (bB.sW b) (pp+80)/\bB.cQ (bB.sW b) (pp+80)<=3:=by rw[hk.q];omega
 have eb:=hx.bl;have xe0:=hx.e0;have xe1:=hx.e1;have aLI:pp+12+2=pp+14:=by omega
 have bPS:pp+12+8=pp+20:=by omega
 have bUJ:i64.wrap (pp+20)=pp+20:=wrap_i64;have so:=N.so;have co:=N.co;have sS:=N.sS;have sC:=N.sC;have t1:=N.t1;have t2:=N.t2;obtain⟨z1,z2,z3,z4⟩:=N.z;unfold sp rE rQ;dsimp only;rw[aLI,bPS,bUJ,gP ⟨hb,bAE,qA,⟨by omega,by omega⟩,hx.xF,by omega,by omega,by omega⟩,aG,aG,aG,aG,aG,aG,fold];refine(gP so).trans ?_;rw[qE,qF,aG,aG,aG,aG,aG,aG,fold];refine(gP co).trans ?_;rw[aG,aG,aG,aG,aG,aG,fold];refine(gP ⟨sS,sC,q4.1,q4.2⟩).trans ?_;rw[qE,qF,qE,qF];have eT:VTurned.trn (fU.Mr (bB.aBF (bB.sW b) (pp+80)) (pp+14),fU.Ms (bB.aBG (bB.sW b) (pp+80)) (pp+14)) (bM.tT (dv (cU.Bt (nV (bB.aBF (bB.sW b) (pp+80)) (bB.aBG (bB.sW b) (pp+80))))) (pp+14),bM.sZ (dv (cU.uW (nV (bB.aBF (bB.sW b) (pp+80)) (bB.aBG (bB.sW b) (pp+80))))) (pp+14)) (bB.cQ (bB.sW b) (pp+80)).toNat=sA (bB.sW b) (pp+80) (pp+14):=rfl;rw[eT,aG,aG,aG,aG,aG,aG,aG,aG,aG,aG,aG,aG];have h3:fn=1\/fn=2\/fn=3:=by omega
 rcases h3 with rfl |rfl |rfl
 ·rfl
 ·rfl
 ·rw[bA (by decide),bA (by decide),fold,fold,qE,qF,qE,qF];have p1:1<=pp+20:=by omega
  have p2:pp+20<=70000:=by omega
  have y1:=cCA z1.1 (show 100000<=262144 by decide);have y2:=cCA z2.1 (show 100000<=262144 by decide);have y3:=cCA z3.1 (show 100000<=262144 by decide);have y4:=cCA z4.1 (show 100000<=262144 by decide);have c:=And.intro t1 (And.intro t2 (And.intro (And.intro p1 p2) (And.intro N.q0 (And.intro (And.intro y1 (And.intro y2 (And.intro y3 y4))) (And.intro N.q1 N.q2)))));refine(gP c).trans ?_;rw[aG,aG,aG,aG,aG,aG];rfl
def aI:dJ:=orc4 (pN .i64) (pN .u64) (pN .i64) (pN .i64) sp
theorem ok:OK 173 aI:=(eB E aE (aA bB.ok (aA nR.ok (aA cU.ok (aA VTurned.ok (aA jV.ok aC))))) func173).aSJ rfl spec
end aEB
namespace Cg
def E:=mE [(162,Qe.aI),(163,bDC.aI),(164,aAP.aI)] 31 [28] [] []
def aE:=bd f118
theorem aT:Nk E aE:=nk
theorem start a b d e f g c:aF E f118 aE [D.agg [sc (bool a),ints u64 b,sc (int i64 d)],D.agg [sc (bool e),ints u64 f,sc (int i64 g)],D.s (sc (int i64 c))]=letI B:=cV.oY true (dv (e,f,g)).fst (dv (e,f,g)).snd c;letI F:=bif iQ B.fst B.snd then aR B.fst B.snd else((0:Int),(0:Int));letI A:=cV.oY false (dv (a,b,d)).fst (dv (a,b,d)).snd c;letI C:=bif iQ A.fst A.snd then aR A.fst A.snd else((0:Int),(0:Int));aM (aU (a,b,d)/\1<=c/\c<=70000) (aD (isNeg C.fst) fun h=>aD (M6.dg C.fst.natAbs) fun i=>aD C.snd fun j=>aD (bif iQ A.fst A.snd then(0:Int)else(5:Int)) fun k=>aM (aU (e,f,g)/\1<=c/\c<=70000) (aD (isNeg F.fst) fun l=>aD (M6.dg F.fst.natAbs) fun m=>aD F.snd fun n=>aD (bif iQ B.fst B.snd then(0:Int)else(5:Int)) fun o=>aM (k=0/\o=0) (some [D.agg [sc (bool h),ints u64 i,sc (int i64 j),sc (bool l),ints u64 m,sc (int i64 n)],D.s (sc (int i64 0))]))):=eJ aT
def sp(x y:gW)(p:Int):Prop×List D:=(aU x/\aU y/\(1<=p/\p<=70000)/\yR false (dv x) p=true/\yR true (dv y) p=true,[wZ (shD false (dv x) p) (shD true (dv y) p),.s (.sc (.int .i64 0))])
theorem spec:oO E f118 aE kF kF (pN .i64) sp:=by
 rintro x y p ⟨h1,h2,hp,i1,i2⟩;have bLZ:iQ (cV.oY false (dv (x.1,x.2.1,x.2.2)).1 (dv (x.1,x.2.1,x.2.2)).2 p).1 (cV.oY false (dv (x.1,x.2.1,x.2.2)).1 (dv (x.1,x.2.1,x.2.2)).2 p).2=true:=i1;have bLY:iQ (cV.oY true (dv (y.1,y.2.1,y.2.2)).1 (dv (y.1,y.2.1,y.2.2)).2 p).1 (cV.oY true (dv (y.1,y.2.1,y.2.2)).1 (dv (y.1,y.2.1,y.2.2)).2 p).2=true:=i2;refine(start x.1 x.2.1 x.2.2 y.1 y.2.1 y.2.2 p).trans ?_;simp only[aG];rw[gP ⟨h1,hp⟩,gP ⟨h2,hp⟩,bLZ,bLY,gP ⟨rfl,rfl⟩];rfl
def aI:dJ:=orc3 kF kF (pN .i64) sp
theorem ok:OK 118 aI:=(eB E aE (aA Qe.ok (aA bDC.ok (aA aAP.ok aC))) func118).xX rfl spec
end Cg
namespace aRM
def E:=mE [(117,Ff.aI),(118,Cg.aI)] 23 [10,20] [] []
def aE:=bd f65
theorem aT:Nk E aE:=nk
theorem start a c d e f g b:aF E f65 aE [D.agg [sc (bool a),ints u64 c,sc (int i64 d),sc (bool e),ints u64 f,sc (int i64 g)],D.s (sc (int i64 b))]=letI C:=int i64 0;letI B:=M.shD true (dv (e,f,g)) b;letI A:=M.shD false (dv (a,c,d)) b;aM (fA (a,c,d,e,f,g)) (aD (if 1<=b/\b<=70000 then(0:Int)else(1:Int)) fun h=>aB (h !=0) (some [D.agg [sc (bool false),sc (slice none 0 0),sc C,sc (bool false),sc (slice none 0 0),sc C],D.s (sc (int i64 h))]) (aM (aU (a,c,d)/\aU (e,f,g)/\(1<=b/\b<=70000)/\yR false (dv (a,c,d)) b=true/\yR true (dv (e,f,g)) b=true) (aD (isNeg A.fst) fun i=>aD (M6.dg A.fst.natAbs) fun j=>aD A.snd fun k=>aD (isNeg B.fst) fun l=>aD (M6.dg B.fst.natAbs) fun m=>aD B.snd fun n=>some [D.agg [sc (bool i),ints u64 j,sc (int i64 k),sc (bool l),ints u64 m,sc (int i64 n)],D.s (sc C)]))):=eJ aT
def sp(s:yN)(p:Int):Prop×List D:=(fA s/\(1<=p/\p<=70000)/\yR false (dv (iR s)) p=true/\yR true (dv (iS s)) p=true,[wZ (shD false (dv (iR s)) p) (shD true (dv (iS s)) p),.s (.sc (.int .i64 0))])
theorem spec:fL E f65 aE Ab (pN .i64) sp:=by
 rintro s p ⟨h1,hp,i1,i2⟩;refine(start s.1 s.2.1 s.2.2.1 s.2.2.2.1 s.2.2.2.2.1 s.2.2.2.2.2 p).trans ?_;rw[gP h1,aG,if_pos hp,gD rfl];exact gP ⟨h1.1,h1.2.1,hp,i1,i2⟩
def aI:dJ:=orc2 Ab (pN .i64) sp
theorem ok:OK 65 aI:=(eB E aE (aA Ff.ok (aA Cg.ok aC)) func65).lF rfl spec
end aRM
namespace lK
def E:=mE [(172,fN.aI),(113,Fc.aI),(14,aRZ.aI),(173,aEB.aI),(65,aRM.aI),(174,Hd.aI)] 93 [19,32,37,52,69,79] [(10,[0,1,2,6,10]),(6,[0,1,2,6,8]),(13,[0,1,2,6,10,11,12])] [6,13]
def aE:=bd f125
theorem aT:Nk E aE:=nk
def J6 a b c d e f g h:=lP E f125 aE 6 [bN a,dO b,bN c,dS 3 44 [dG d,sc (slice none 0 0),cP e,dG f,sc (slice none 0 0),cP g],rY h]
def Jl a b c d e f g h:=pZ E f125 aE 10 [bN a,dO b,bN c,dS 3 44 [dG d,sc (slice none 0 0),cP e,dG f,sc (slice none 0 0),cP g],bN h]
def Qc a b c d e f g h i j k l m n o:=lP E f125 aE 13 [bN a,dO b,bN c,dS 3 44 [dG d,sc (slice none 0 0),cP e,dG f,sc (slice none 0 0),cP g],bN h,dS 5 44 [dG i,gO j,cP k,dG l,gO m,cP n],bN o]
theorem start a b c:aF E f125 aE [D.s (sc (int i64 a)),D.s (sc (int u64 b)),D.s (sc (int i64 c))]=letI B:=int i64 0;letI A:=lK.J6 a b c false 0 false 0 (fN.aKR a b c);aM (0<=b/\b<18446744073709551616) (aB (fN.Xb a b c !=0) (some [D.agg [sc (bool false),sc (slice none 0 0),sc B,sc (bool false),sc (slice none 0 0),sc B],D.s (sc (int i64 (fN.Xb a b c)))]) (aB (fN.aKR a b c) (aB (a==2) (aM ((-9223372036854775808:Int)<=(1:Int)/\(1:Int)<(9223372036854775808:Int)) (aD (isNeg (aR 1 0).fst) fun d=>aD (M6.dg (aR 1 0).fst.natAbs) fun e=>aD (aR 1 0).snd fun f=>aM (aU (d,e,f)) (some [D.agg [sc (bool d),ints u64 e,sc (int i64 f),sc (bool d),ints u64 e,sc (int i64 f)],D.s (sc B)]))) A) A)):=eJ aT
theorem vE a b c d e f g h:J6 a b c d e f g h=aB h (aM ((-9223372036854775808:Int)<=(0:Int)/\(0:Int)<(9223372036854775808:Int)) (aD (isNeg (aR 0 0).fst) fun i=>aD (M6.dg (aR 0 0).fst.natAbs) fun j=>aD (aR 0 0).snd fun k=>aM (aU (i,j,k)) (some [D.agg [sc (bool i),ints u64 j,sc (int i64 k),sc (bool i),ints u64 j,sc (int i64 k)],D.s (sc (int i64 0))]))) (lK.Jl a b c d e f g (i64.wrap (c+80))):=cJ aT
theorem tD a b c d e f g h:Jl a b c d e f g h=letI A:=rE a (bB.sW b) (if 68000<h then(68000:Int)else h) (i64.wrap (c+12));aM ((1<=a/\a<=3)/\(0<=b/\b<18446744073709551616)/\cD.eZ 64 b=true/\cE.jD 64 b=true/\aEJ (bB.sW b)/\(13<=i64.wrap (c+12)/\i64.wrap (c+12)<=66012)/\(if 68000<h then(68000:Int)else h)=i64.wrap (c+12)+68) (aD (isNeg A.fst.fst) fun i=>aD (M6.dg A.fst.fst.natAbs) fun j=>aD A.fst.snd fun k=>aD (isNeg A.snd.fst) fun l=>aD (M6.dg A.snd.fst.natAbs) fun m=>aD A.snd.snd fun n=>lK.Qc a b c d e f g (if 68000<h then(68000:Int)else h) i j k l m n 0):=lJ aT
theorem wW a b c d e f g h i j k l m n o:Qc a b c d e f g h i j k l m n o=letI K:=int i64 0;letI H:=(i,j,k,l,m,n);letI G:=i64.wrap (c+20);letI C:=M.shD true (dv (iS H)) G;letI B:=M.shD false (dv (iR H)) G;aB (o !=0) (some [D.agg [sc (bool false),sc (slice none 0 0),sc K,sc (bool false),sc (slice none 0 0),sc K],D.s (sc (int i64 o))]) (aM (fA H/\(1<=i64.wrap (c+20)/\i64.wrap (c+20)<=70000)/\yR false (dv (iR H)) G=true/\yR true (dv (iS H)) G=true) (aD (isNeg B.fst) fun p=>aD (M6.dg B.fst.natAbs) fun q=>aD B.snd fun r=>aD (isNeg C.fst) fun s=>aD (M6.dg C.fst.natAbs) fun t=>aD C.snd fun u=>letI F:=(p,q,r,s,t,u);letI I:=dv (iR F);letI A:=some [D.agg [sc (bool p),ints u64 q,sc (int i64 r),sc (bool s),ints u64 t,sc (int i64 u)],D.s (sc K)];aM (fA F/\(1<=c/\c<=70000)/\bS.lA (dv (iS F)) (-I.fst,I.snd)=true) (aD (Hd.bDF I (dv (iS F)) c) fun v=>aB v A (aB (h==68000) A (lK.Jl a b c d e f g (i64.wrap (h+64))))))):=cJ aT
def aVP(fn b p:Int):(Int×Int)×(Int×Int):=if fN.Xb fn b p≠0 then((0,0),(0,0))else bif fN.aKR fn b p then(if fn=2 then((1,0),(1,0))else((0,0),(0,0)))else eE fn (bB.sW b) p
def sp(fn b p:Int):Prop×List D:=(0<=b/\b<18446744073709551616,[wZ (aVP fn b p).1 (aVP fn b p).2,.s (.sc (.int .i64 (fN.Xb fn b p)))])
theorem fold(a b:Int×Int):(isNeg a.1,M6.dg a.1.natAbs,a.2,isNeg b.1,M6.dg b.1.natAbs,b.2)=nV a b:=rfl
theorem aQI{b:Int}(hb:0<=b/\b<18446744073709551616)(c0:fN.Qp b≠0)(c3:fN.Qp b≠3)(c4:fN.Qp b≠4):cD.eZ 64 b=true/\cE.jD 64 b=true/\bDB (aZ.kA 64 b) (aZ.lG 64 b):=by
 have hp:cD.eZ 64 b=true:=rfl;unfold fN.Qp at c0 c3 c4;rw[hp,cond_true]at c0 c3 c4;have e1:cO.lC (aH.fD 64)=4503599627370496:=rfl;have e2:lE.mW (aH.fD 64)=9218868437227405312:=rfl;have e3:cA.cF (aH.fD 64)=9223372036854775808:=rfl;have e4:(aH.fD 64).2.2.1=-1074:=rfl;unfold fF.fW at c0 c3 c4;rw[e1,e2]at c0 c3 c4;have n0:b%9223372036854775808≠0:=fun h=>by rw[h,if_pos rfl]at c0;exact c0 rfl
 have n1:b%9223372036854775808<9218868437227405312:=by
  rw[if_neg n0]at c3 c4
  by_cases h1:b%9223372036854775808<4503599627370496
  ·omega
  ·rw[if_neg h1]at c3 c4
   by_cases h2:b%9223372036854775808<9218868437227405312
   ·exact h2
   ·rw[if_neg h2]at c3 c4
    by_cases h3:b%9223372036854775808=9218868437227405312
    ·rw[if_pos h3]at c3;exact absurd rfl c3
    ·rw[if_neg h3]at c4;exact absurd rfl c4
 refine⟨hp,?_,?_⟩
 ·unfold cE.jD;rw[e2,e3];exact decide_eq_true n1
 ·have hz:(aZ.kA 64 b).natAbs=(dT.pQ (aH.fD 64) (b%9223372036854775808)).toNat:=by
   unfold aZ.kA;rw[kR,e3]
  have hm:0<dT.pQ (aH.fD 64) (b%9223372036854775808)/\dT.pQ (aH.fD 64) (b%9223372036854775808)<9007199254740992:=by
   unfold dT.pQ;rw[e1];split <;> omega
  have he:-1074<=aZ.lG 64 b/\aZ.lG 64 b<=971:=by
   unfold aZ.lG dT.sT;rw[e1,e3,e4];split <;> omega
  exact⟨by omega,by omega,he.1,he.2⟩
theorem told{fn b p:Int}(c:fN.Xb fn b p=0)(hz:fN.aKR fn b p=false):(1<=fn/\fn<=3)/\(1<=p/\p<=66000)/\fN.Qp b≠0/\fN.Qp b≠3/\fN.Qp b≠4:=by
  unfold fN.Xb at c;unfold fN.aKR at hz
  by_cases c1:fn<1
  ·rw[if_pos c1]at c;omega
  ·rw[if_neg c1]at c hz
   by_cases c2:3<fn
   ·rw[if_pos c2]at c;omega
   ·rw[if_neg c2]at c hz
    by_cases c3:p<1
    ·rw[if_pos c3]at c;omega
    ·rw[if_neg c3]at c hz
     by_cases c4:66000<p
     ·rw[if_pos c4]at c;omega
     ·rw[if_neg c4]at c hz
      by_cases c5:fN.Qp b=3
      ·rw[if_pos c5]at c;omega
      ·rw[if_neg c5]at c
       by_cases c6:fN.Qp b=4
       ·rw[if_pos c6]at c;omega
       ·exact⟨by omega,by omega,beq_eq_false_iff_ne.1 hz,c5,c6⟩
theorem spec:bCK E f125 aE (pN .i64) (pN .u64) (pN .i64) sp:=by
 intro fn b p h;have h:0<=b/\b<18446744073709551616:=h;have s:=(start fn b p).trans (gP h);unfold sp aVP;dsimp only
 by_cases c:fN.Xb fn b p=0
 ·rw[aO,c];rw[c,gD rfl]at s;cases hz:fN.aKR fn b p with
  |true =>
   rw[cond_true];rw[hz,bT]at s
   by_cases f2:fn=2
   ·rw[if_pos f2];have e:aR 1 0=(1,0):=by decide +kernel
    rw[bI f2,gP ⟨by decide,by decide⟩,e,aG,aG,aG,gP (dV (show kT (1,0)from e▸iF (iM (by decide +kernel) (by decide +kernel)) (by decide +kernel)))]at s;exact⟨_,s,iZ.refl _⟩
   ·rw[if_neg f2];have e:aR 0 0=(0,0):=fR ..;rw[bA f2,vE,bT,gP ⟨by decide,by decide⟩,e,aG,aG,aG,gP (dV (show kT (0,0)from e▸iF (iM (by decide +kernel) (by decide +kernel)) (by decide +kernel)))]at s;exact⟨_,s,iZ.refl _⟩
  |false =>
   rw[cond_false];have hv:=told c hz;obtain⟨hf,hp,v0,v3,v4⟩:=hv;obtain⟨bAE,qA,hN⟩:=aQI h v0 v3 v4;have hx:aEJ (bB.sW b):=bIF hN;obtain⟨k,hk⟩:=Le (w:=p+80) hx (by omega);have N:=xJ (fn:=fn) (p:=p) hx hp hf hk;have w1:i64.wrap (p+80)=p+80:=wrap_i64;have w2:i64.wrap (p+12)=p+12:=wrap_i64;have w3:i64.wrap (p+20)=p+20:=wrap_i64;have p1:1<=p+20/\p+20<=70000:=⟨by omega,by omega⟩;have p2:1<=p/\p<=70000:=⟨by omega,by omega⟩;have cAJ:p+80=p+12+68:=by omega
   have u:=N.bx;obtain⟨re,s1,s2,ok,th⟩:=And.intro N.re (And.intro N.s1 (And.intro N.s2 (And.intro N.ok N.thin)));have Aw:fA (nV (eE fn (bB.sW b) p).1 (eE fn (bB.sW b) p).2):=u.Aw;unfold eE at ok th Aw ⊢;rw[hz,bF,vE,bF,w1,tD,w2,if_neg (show ¬(68000:Int)<p+80 by omega),gP ⟨hf,h,bAE,qA,hx,⟨by omega,by omega⟩,cAJ⟩]at s;generalize rE fn (bB.sW b) (p+80) (p+12)=q at *;rw[aG,aG,aG,aG,aG,aG,wW,gD rfl,w3,fold,qE,qF]at s;have s:=s.trans (gP ⟨re,p1,s1,s2⟩);dsimp only at ok th Aw ⊢;generalize M.shD false q.1 (p+20)=lo at *;generalize M.shD true q.2 (p+20)=hi at *;rw[aG,aG,aG,aG,aG,aG,fold,qE,qF]at s;have s:=s.trans (gP ⟨Aw,p2,ok⟩);rw[aG,th,bT]at s;exact⟨_,s,iZ.refl _⟩
 ·rw[if_pos c];rw[nW c]at s;refine⟨_,s,.cons ?_ (iZ.refl _)⟩;have d0:M6.dg ((0,0):Int×Int).1.natAbs=[]:=M6.cB;unfold wZ;dsimp only;rw[show(0:Int).natAbs=0 from rfl,M6.cB];exact Ap.agg (.cons (Fe.refl _) (.cons (Fe.nil _) (.cons (Fe.refl _) (.cons (Fe.refl _) (.cons (Fe.nil _) (zZ.refl _))))))
def aI:dJ:=orc3 (pN .i64) (pN .u64) (pN .i64) sp
theorem ok:OK 125 aI:=(eB E aE (aA fN.ok (aA Fc.ok (aA aRZ.ok (aA aEB.ok (aA aRM.ok (aA Hd.ok aC)))))) func125).bKX rfl spec
end lK
end W
namespace M
open Go AI W
theorem aQT{b:Int}:fN.Qp b=(if b%9223372036854775808=0 then 0 else if b%9223372036854775808<4503599627370496 then 1 else if b%9223372036854775808<9218868437227405312 then 2 else if b%9223372036854775808=9218868437227405312 then 3 else 4):=by
 have hp:cD.eZ 64 b=true:=rfl;have e1:cO.lC (aH.fD 64)=4503599627370496:=rfl;have e2:lE.mW (aH.fD 64)=9218868437227405312:=rfl;have e3:cA.cF (aH.fD 64)=9223372036854775808:=rfl;unfold fN.Qp fF.fW;rw[hp,e1,e2,cond_true]
theorem aLS{fn b p:Int}:fN.Xb fn b p=if fn<1 then 1 else if 3<fn then 1 else if p<1 then 1 else if 66000<p then 1 else if b%9223372036854775808<9218868437227405312 then 0 else 6:=by
 have hp:cD.eZ 64 b=true:=rfl;unfold fN.Xb;rw[aQT,hp,cond_true]
 repeat' (split <;> try rfl)
 all_goals omega
theorem aYM{fn b p:Int}(h:fN.Xb fn b p=0):fN.aKR fn b p=(b%9223372036854775808==0):=by
 rw[aLS]at h;unfold fN.aKR;rw[aQT]
 by_cases c1:fn<1
 ·rw[if_pos c1]at h;omega
 ·rw[if_neg c1]at h ⊢
  by_cases c2:3<fn
  ·rw[if_pos c2]at h;omega
  ·rw[if_neg c2]at h ⊢
   by_cases c3:p<1
   ·rw[if_pos c3]at h;omega
   ·rw[if_neg c3]at h ⊢
    by_cases c4:66000<p
    ·rw[if_pos c4]at h;omega
    ·rw[if_neg c4]at h ⊢
     by_cases c5:b%9223372036854775808=0
     ·rw[if_pos c5,beq_iff_eq.2 c5];rfl
     ·rw[if_neg c5,beq_eq_false_iff_ne.2 c5]
      repeat' (split <;> try rfl)
def Real(b:Int):Prop:=(0<=b/\b<18446744073709551616)/\fN.Qp b≠0/\fN.Qp b≠3/\fN.Qp b≠4
theorem Real.n{b:Int}(h:Real b):bDB (aZ.kA 64 b) (aZ.lG 64 b):=(lK.aQI h.1 h.2.1 h.2.2.1 h.2.2.2).2.2
theorem Real.x{b:Int}(h:Real b):aEJ (bB.sW b):=bIF h.n
theorem Real.q{b:Int}(_h:Real b):R.qz (bB.sW b)=R.qz (aZ.kA 64 b,aZ.lG 64 b):=pC _ _
end M
namespace M
open Go AI W
open Classical in
def kx (b:Int):Int:=if h:∃k,R.tZ (R.qz (bB.sW b)) k then Classical.choose h else 0
theorem aGG{b:Int}(h:Real b):R.tZ (R.qz (bB.sW b)) (kx b):=by
 obtain⟨k,hk⟩:=Le (w:=100) h.x (by omega);have e:∃k,R.tZ (R.qz (bB.sW b)) k:=⟨k,hk.aCF⟩;unfold kx;rw[dif_pos e];exact Classical.choose_spec e
theorem bBQ{fn b p:Int}(h:Real b)(hf:1<=fn/\fn<=3)(hp:1<=p/\p<=66000):bJA fn (bB.sW b) p (kx b):=by
 obtain⟨k,hk⟩:=Le (w:=p+80) h.x (by omega);rw[R.aYO h.x.fit (aGG h) hk.aCF];exact xJ h.x hp hf hk
def vx(fn b:Int):Rat:=R.fv fn (R.qz (bB.sW b)) (kx b)
theorem aTM{fn b p:Int}(hb:0<=b/\b<18446744073709551616)(c:fN.Xb fn b p=0)(hz:¬b%9223372036854775808=0):Real b/\(1<=fn/\fn<=3)/\(1<=p/\p<=66000)/\fN.aKR fn b p=false:=by
 have z:=aYM c;rw[beq_eq_false_iff_ne.2 hz]at z;obtain⟨hf,hp,v⟩:=lK.told c z;exact⟨⟨hb,v⟩,hf,hp,z⟩
theorem aPW{fn b p:Int}(c:fN.Xb fn b p=0)(hz:fN.aKR fn b p=false):lK.aVP fn b p=eE fn (bB.sW b) p:=by
 unfold lK.aVP;rw[aO,hz,cond_false]
theorem bUU:R.qz (0,0)=0:=R.pU rfl
end M
namespace M
open Go AI W
structure bTX(x:Int×Int)(n:Nat)(E:Int)(B:Rat):Prop where
 xF:kT x
 bl:bl x.1.natAbs<=n
 e:E<=x.2
 b:R.ab (R.qz x)<=B
end M
namespace M
open Go AI W
theorem Fy(a b:Int×Int):R.qz (eY.gZ a b)=R.qz a*R.qz b:=by
 unfold eY.gZ;rw[pC,Rat.intCast_mul,R.kS];unfold R.qz;grind
end M
namespace W
open Go AI M
namespace Wh
def E:=mE [(120,Ji.aI)] 9 [] [] []
def aE:=bd f170
theorem aT:Nk E aE:=nk
theorem start a b c d e f:aF E f170 aE [D.agg [sc (bool a),ints u64 b,sc (int i64 c)],D.agg [sc (bool d),ints u64 e,sc (int i64 f)]]=aM (aU (a,b,c)/\aU (d,e,f)) (some [D.s (sc (bool (decide (eR (dv (a,b,c)) (dv (d,e,f))<0))))]):=eJ aT
def sp(x y:gW):Prop×List D:=(aU x/\aU y,[.s (.sc (.bool (decide (eR (dv x) (dv y)<0))))])
theorem spec:fL E f170 aE kF kF sp:=by
 intro x y h;exact(start x.1 x.2.1 x.2.2 y.1 y.2.1 y.2.2).trans (gP h)
def aI:dJ:=orc2 kF kF sp
theorem ok:OK 170 aI:=(eB E aE (aA Ji.ok aC) func170).lF rfl spec
end Wh
namespace SFirstL4
def E:=mE [(170,Wh.aI)] 25 [] [(3,[1,4,5,12,13,14])] []
def aE:=bd f168
theorem aT:Nk E aE:=nk
def L3 a b c d e (f:Nat) (g:Nat->Bool) (h:Nat->List Int) (j:Nat->Int) k l:=pZ E f168 aE 3 [vA (sc (Value.func (Fn.func 170) { toList:=[] } { toList:=[] })),dS 1 29 [dG a,sc (slice none 0 0),cP b],dS 2 29 [dG c,gO d,cP e],(A.v (V.one (L.rows 3 f fun i=>[sc (bool (g i)),ints u64 (h i),sc (int i64 (j i))])),none),bN k,bN l]
theorem start(a:gW)(b:gW)(c:gW)(d:gW):aF E f168 aE [D.rows 3 4 fun i=>[sc (bool (t4 a b c d i).fst),ints u64 (t4 a b c d i).snd.fst,sc (int i64 (t4 a b c d i).snd.snd)],D.s (sc (Value.func (Fn.func (170:FuncId)) #[] #[]))]=letI A:=t4 a b c d (cPH 0);SFirstL4.L3 false 0 A.fst A.snd.fst A.snd.snd 3 (fun i=>(t4 a b c d (cPH 1+i)).fst) (fun i=>(t4 a b c d (cPH 1+i)).snd.fst) (fun i=>(t4 a b c d (cPH 1+i)).snd.snd) 3 0:=eJ aT
theorem xK a b c d e f g h j k l:L3 a b c d e f g h j k l=letI A:=(g l.toNat,h l.toNat,j l.toNat);aB (decide (l<k)) (if 0<=l/\l<(f:Int)then aM (aU A/\aU (c,d,e)) (aB (decide (eR (dv A) (dv (c,d,e))<0)) (SFirstL4.L3 a b (g l.toNat) (h l.toNat) (j l.toNat) f (fun i=>g i) (fun i=>h i) (fun i=>j i) k (i64.wrap (l+1))) (SFirstL4.L3 a b c d e f (fun i=>g i) (fun i=>h i) (fun i=>j i) k (i64.wrap (l+1))))else none) (some [D.agg [sc (bool c),ints u64 d,sc (int i64 e)]]):=lJ aT
def best(f:Nat->gW):Nat->gW
 |0=>f 0
 |k+1=>bif decide (eR (dv (f (k+1))) (dv (best f k))<0)then f (k+1)else best f k
def Kq(a:gW×gW×gW×gW):gW:=best (t4 a.1 a.2.1 a.2.2.1 a.2.2.2) 3
def sp(a:gW×gW×gW×gW)(u:Unit):Prop×List D:=(aU a.1/\aU a.2.1/\aU a.2.2.1/\aU a.2.2.2,[.agg [.sc (.bool (Kq a).1),.ints .u64 (Kq a).2.1,.sc (.int .i64 (Kq a).2.2)]])
theorem zQ{f:Nat->gW}{n:Nat}(hf:∀i,i<n->aU (f i)):∀k,k<n->aU (best f k)
 |0,h=>hf 0 h
 |k+1,h=>by
  unfold best;cases decide (eR (dv (f (k+1))) (dv (best f k))<0)
  ·exact zQ hf k (by omega)
  ·exact hf (k+1) h
theorem L(b0:Bool)(x1:Int)(n:Nat)(f:Nat->gW)(hn:n<1000)(hf:∀i,i<n+1->aU (f i)):∀d k:Nat,k+d=n->L3 b0 x1 (best f k).1 (best f k).2.1 (best f k).2.2 n (fun i=>(f (1+i)).1) (fun i=>(f (1+i)).2.1) (fun i=>(f (1+i)).2.2) (n:Int) (k:Int)=some [.agg [.sc (.bool (best f n).1),.ints .u64 (best f n).2.1,.sc (.int .i64 (best f n).2.2)]]
 |0,k,h=>by
  obtain rfl:k=n:=by omega
  rw[xK,aL]
 |d+1,k,h=>by
  have e:i64.wrap ((k:Int)+1)=((k+1:Nat):Int):=by rw[wrap_i64];omega
  have r:=L b0 x1 n f hn hf d (k+1) (by omega);have g1:aU (f (1+k)):=hf _ (by omega);have g2:aU (best f k):=zQ hf k (by omega);have c1:f (k+1)=f (1+k):=by rw[Nat.add_comm]
  rw[xK,aN,aQ,cFB,gP ⟨g1,g2⟩,e]
  by_cases hc:eR (dv (f (k+1))) (dv (best f k))<0
  ·have hb:best f (k+1)=f (1+k):=by
    rw[<-c1];show(bif decide (eR (dv (f (k+1))) (dv (best f k))<0)then f (k+1)else best f k)=_;rw[decide_eq_true hc];rfl
   rw[c1]at hc;rw[aN hc];rw[hb]at r;exact r
  ·have hb:best f (k+1)=best f k:=by
    show(bif decide (eR (dv (f (k+1))) (dv (best f k))<0)then f (k+1)else best f k)=_;rw[decide_eq_false hc];rfl
   rw[c1]at hc;rw[aL hc];rw[hb]at r;exact r
theorem all{a:gW×gW×gW×gW}(h:aU a.1/\aU a.2.1/\aU a.2.2.1/\aU a.2.2.2):∀i,i<4->aU (t4 a.1 a.2.1 a.2.2.1 a.2.2.2 i):=fun i hi=>by
  obtain rfl |rfl |rfl |rfl:i=0\/i=1\/i=2\/i=3:=by omega
  ·exact h.1
  ·exact h.2.1
  ·exact h.2.2.1
  ·exact h.2.2.2
theorem aDP{a:gW×gW×gW×gW}(h:aU a.1/\aU a.2.1/\aU a.2.2.1/\aU a.2.2.2):aU (Kq a):=zQ (n:=4) (all h) 3 (by decide)
theorem spec:fL E f168 aE (aXD (.pair sB (.pair (sI .u64) (sN .i64))) (false,[],0)) (pFn 170) sp:=fun a u h =>
 (start a.1 a.2.1 a.2.2.1 a.2.2.2).trans (L false 0 3 (t4 a.1 a.2.1 a.2.2.1 a.2.2.2) (by decide) (all h) 3 0 (by decide))
def aI:dJ:=orc2 (aXD (.pair sB (.pair (sI .u64) (sN .i64))) (false,[],0)) (pFn 170) sp
theorem ok:OK 168 aI:=(eB E aE (aA Wh.ok aC) func168).lF rfl spec
end SFirstL4
namespace Wg
def E:=mE [(168,SFirstL4.aI)] 5 [] [] []
def aE:=bd f122
theorem aT:Nk E aE:=nk
theorem start(a:gW)(b:gW)(c:gW)(d:gW):aF E f122 aE [D.rows 3 4 fun i=>[sc (bool (t4 a b c d i).fst),ints u64 (t4 a b c d i).snd.fst,sc (int i64 (t4 a b c d i).snd.snd)]]=letI G:=t4 a b c d 3;letI F:=t4 a b c d 2;letI K:=(F.fst,F.snd.fst,F.snd.snd);letI C:=t4 a b c d 1;letI I:=(C.fst,C.snd.fst,C.snd.snd);letI B:=t4 a b c d 0;letI H:=(B.fst,B.snd.fst,B.snd.snd);letI A:=SFirstL4.Kq (H,I,K,G.fst,G.snd.fst,G.snd.snd);aM (aU H/\aU I/\aU K/\aU (G.fst,G.snd.fst,G.snd.snd)) (some [D.agg [sc (bool A.fst),ints u64 A.snd.fst,sc (int i64 A.snd.snd)]]):=eJ aT
def sp(a:gW×gW×gW×gW):Prop×List D:=(aU a.1/\aU a.2.1/\aU a.2.2.1/\aU a.2.2.2,[.agg [.sc (.bool (SFirstL4.Kq a).1),.ints .u64 (SFirstL4.Kq a).2.1,.sc (.int .i64 (SFirstL4.Kq a).2.2)]])
theorem spec:iU E f122 aE (aXD (.pair sB (.pair (sI .u64) (sN .i64))) (false,[],0)) sp:=fun a h =>
 (start a.1 a.2.1 a.2.2.1 a.2.2.2).trans (gP h)
def aI:dJ:=orc1 (aXD (.pair sB (.pair (sI .u64) (sN .i64))) (false,[],0)) sp
theorem ok:OK 122 aI:=(eB E aE (aA SFirstL4.ok aC) func122).oS rfl spec
end Wg
namespace Wk
def E:=mE [(120,Ji.aI)] 9 [] [] []
def aE:=bd f169
theorem aT:Nk E aE:=nk
theorem start a b c d e f:aF E f169 aE [D.agg [sc (bool a),ints u64 b,sc (int i64 c)],D.agg [sc (bool d),ints u64 e,sc (int i64 f)]]=aM (aU (a,b,c)/\aU (d,e,f)) (some [D.s (sc (bool (decide (0<eR (dv (a,b,c)) (dv (d,e,f))))))]):=eJ aT
def sp(x y:gW):Prop×List D:=(aU x/\aU y,[.s (.sc (.bool (decide (0<eR (dv x) (dv y)))))])
theorem spec:fL E f169 aE kF kF sp:=by
 intro x y h;exact(start x.1 x.2.1 x.2.2 y.1 y.2.1 y.2.2).trans (gP h)
def aI:dJ:=orc2 kF kF sp
theorem ok:OK 169 aI:=(eB E aE (aA Ji.ok aC) func169).lF rfl spec
end Wk
namespace SFirstG4
def E:=mE [(169,Wk.aI)] 25 [] [(3,[1,4,5,12,13,14])] []
def aE:=bd f168
theorem aT:Nk E aE:=nk
def L3 a b c d e (f:Nat) (g:Nat->Bool) (h:Nat->List Int) (j:Nat->Int) k l:=pZ E f168 aE 3 [vA (sc (Value.func (Fn.func 169) { toList:=[] } { toList:=[] })),dS 1 29 [dG a,sc (slice none 0 0),cP b],dS 2 29 [dG c,gO d,cP e],(A.v (V.one (L.rows 3 f fun i=>[sc (bool (g i)),ints u64 (h i),sc (int i64 (j i))])),none),bN k,bN l]
theorem start(a:gW)(b:gW)(c:gW)(d:gW):aF E f168 aE [D.rows 3 4 fun i=>[sc (bool (t4 a b c d i).fst),ints u64 (t4 a b c d i).snd.fst,sc (int i64 (t4 a b c d i).snd.snd)],D.s (sc (Value.func (Fn.func (169:FuncId)) #[] #[]))]=letI A:=t4 a b c d (cPH 0);SFirstG4.L3 false 0 A.fst A.snd.fst A.snd.snd 3 (fun i=>(t4 a b c d (cPH 1+i)).fst) (fun i=>(t4 a b c d (cPH 1+i)).snd.fst) (fun i=>(t4 a b c d (cPH 1+i)).snd.snd) 3 0:=eJ aT
theorem xK a b c d e f g h j k l:L3 a b c d e f g h j k l=letI A:=(g l.toNat,h l.toNat,j l.toNat);aB (decide (l<k)) (if 0<=l/\l<(f:Int)then aM (aU A/\aU (c,d,e)) (aB (decide (0<eR (dv A) (dv (c,d,e)))) (SFirstG4.L3 a b (g l.toNat) (h l.toNat) (j l.toNat) f (fun i=>g i) (fun i=>h i) (fun i=>j i) k (i64.wrap (l+1))) (SFirstG4.L3 a b c d e f (fun i=>g i) (fun i=>h i) (fun i=>j i) k (i64.wrap (l+1))))else none) (some [D.agg [sc (bool c),ints u64 d,sc (int i64 e)]]):=lJ aT
def best(f:Nat->gW):Nat->gW
 |0=>f 0
 |k+1=>bif decide (0<eR (dv (f (k+1))) (dv (best f k)))then f (k+1)else best f k
def Kq(a:gW×gW×gW×gW):gW:=best (t4 a.1 a.2.1 a.2.2.1 a.2.2.2) 3
def sp(a:gW×gW×gW×gW)(u:Unit):Prop×List D:=(aU a.1/\aU a.2.1/\aU a.2.2.1/\aU a.2.2.2,[.agg [.sc (.bool (Kq a).1),.ints .u64 (Kq a).2.1,.sc (.int .i64 (Kq a).2.2)]])
theorem zQ{f:Nat->gW}{n:Nat}(hf:∀i,i<n->aU (f i)):∀k,k<n->aU (best f k)
 |0,h=>hf 0 h
 |k+1,h=>by
  unfold best;cases decide (0<eR (dv (f (k+1))) (dv (best f k)))
  ·exact zQ hf k (by omega)
  ·exact hf (k+1) h
theorem L(b0:Bool)(x1:Int)(n:Nat)(f:Nat->gW)(hn:n<1000)(hf:∀i,i<n+1->aU (f i)):∀d k:Nat,k+d=n->L3 b0 x1 (best f k).1 (best f k).2.1 (best f k).2.2 n (fun i=>(f (1+i)).1) (fun i=>(f (1+i)).2.1) (fun i=>(f (1+i)).2.2) (n:Int) (k:Int)=some [.agg [.sc (.bool (best f n).1),.ints .u64 (best f n).2.1,.sc (.int .i64 (best f n).2.2)]]
 |0,k,h=>by
  obtain rfl:k=n:=by omega
  rw[xK,aL]
 |d+1,k,h=>by
  have e:i64.wrap ((k:Int)+1)=((k+1:Nat):Int):=by rw[wrap_i64];omega
  have r:=L b0 x1 n f hn hf d (k+1) (by omega);have g1:aU (f (1+k)):=hf _ (by omega);have g2:aU (best f k):=zQ hf k (by omega);have c1:f (k+1)=f (1+k):=by rw[Nat.add_comm]
  rw[xK,aN,aQ,cFB,gP ⟨g1,g2⟩,e]
  by_cases hc:0<eR (dv (f (k+1))) (dv (best f k))
  ·have hb:best f (k+1)=f (1+k):=by
    rw[<-c1];show(bif decide (0<eR (dv (f (k+1))) (dv (best f k)))then f (k+1)else best f k)=_;rw[decide_eq_true hc];rfl
   rw[c1]at hc;rw[aN hc];rw[hb]at r;exact r
  ·have hb:best f (k+1)=best f k:=by
    show(bif decide (0<eR (dv (f (k+1))) (dv (best f k)))then f (k+1)else best f k)=_;rw[decide_eq_false hc];rfl
   rw[c1]at hc;rw[aL hc];rw[hb]at r;exact r
theorem all{a:gW×gW×gW×gW}(h:aU a.1/\aU a.2.1/\aU a.2.2.1/\aU a.2.2.2):∀i,i<4->aU (t4 a.1 a.2.1 a.2.2.1 a.2.2.2 i):=fun i hi=>by
  obtain rfl |rfl |rfl |rfl:i=0\/i=1\/i=2\/i=3:=by omega
  ·exact h.1
  ·exact h.2.1
  ·exact h.2.2.1
  ·exact h.2.2.2
theorem aDP{a:gW×gW×gW×gW}(h:aU a.1/\aU a.2.1/\aU a.2.2.1/\aU a.2.2.2):aU (Kq a):=zQ (n:=4) (all h) 3 (by decide)
theorem spec:fL E f168 aE (aXD (.pair sB (.pair (sI .u64) (sN .i64))) (false,[],0)) (pFn 169) sp:=fun a u h =>
 (start a.1 a.2.1 a.2.2.1 a.2.2.2).trans (L false 0 3 (t4 a.1 a.2.1 a.2.2.1 a.2.2.2) (by decide) (all h) 3 0 (by decide))
def aI:dJ:=orc2 (aXD (.pair sB (.pair (sI .u64) (sN .i64))) (false,[],0)) (pFn 169) sp
theorem ok:OK 168 aI:=(eB E aE (aA Wk.ok aC) func168).lF rfl spec
end SFirstG4
namespace Wj
def E:=mE [(168,SFirstG4.aI)] 5 [] [] []
def aE:=bd f121
theorem aT:Nk E aE:=nk
theorem start(a:gW)(b:gW)(c:gW)(d:gW):aF E f121 aE [D.rows 3 4 fun i=>[sc (bool (t4 a b c d i).fst),ints u64 (t4 a b c d i).snd.fst,sc (int i64 (t4 a b c d i).snd.snd)]]=letI G:=t4 a b c d 3;letI F:=t4 a b c d 2;letI K:=(F.fst,F.snd.fst,F.snd.snd);letI C:=t4 a b c d 1;letI I:=(C.fst,C.snd.fst,C.snd.snd);letI B:=t4 a b c d 0;letI H:=(B.fst,B.snd.fst,B.snd.snd);letI A:=SFirstG4.Kq (H,I,K,G.fst,G.snd.fst,G.snd.snd);aM (aU H/\aU I/\aU K/\aU (G.fst,G.snd.fst,G.snd.snd)) (some [D.agg [sc (bool A.fst),ints u64 A.snd.fst,sc (int i64 A.snd.snd)]]):=eJ aT
def sp(a:gW×gW×gW×gW):Prop×List D:=(aU a.1/\aU a.2.1/\aU a.2.2.1/\aU a.2.2.2,[.agg [.sc (.bool (SFirstG4.Kq a).1),.ints .u64 (SFirstG4.Kq a).2.1,.sc (.int .i64 (SFirstG4.Kq a).2.2)]])
theorem spec:iU E f121 aE (aXD (.pair sB (.pair (sI .u64) (sN .i64))) (false,[],0)) sp:=fun a h =>
 (start a.1 a.2.1 a.2.2.1 a.2.2.2).trans (gP h)
def aI:dJ:=orc1 (aXD (.pair sB (.pair (sI .u64) (sN .i64))) (false,[],0)) sp
theorem ok:OK 121 aI:=(eB E aE (aA SFirstG4.ok aC) func121).oS rfl spec
end Wj
namespace SMul
def E:Env:={ ({ base with C:=callsOf [(117,zU.aI),(155,eY.aI),(122,Wg.aI),(121,Wj.aI),(118,Cg.aI)],roll:=tlook [(6,3),(9,3)] })with nt:=69,own:=[20,48,66],keep:=fun k=>(tlook [(9,[2,4,6,9,11,29,30,31,39,40,41]),(6,[2,4,6,9,29,30,31])] k).getD [],cut:=tlook [(17,[2,6,1000009])] }
def aE:=bd f114
theorem start a b d e f g h i j k l m c:aF E f114 aE [D.agg [sc (bool a),ints u64 b,sc (int i64 d),sc (bool e),ints u64 f,sc (int i64 g)],D.agg [sc (bool h),ints u64 i,sc (int i64 j),sc (bool k),ints u64 l,sc (int i64 m)],D.s (sc (int i64 c))]=aM (fA (a,b,d,e,f,g)/\fA (h,i,j,k,l,m)) (aD (if 1<=c/\c<=70000 then(0:Int)else(1:Int)) fun n=>aB (n !=0) (some [D.agg [sc (bool false),sc (slice none 0 0),sc (int i64 0),sc (bool false),sc (slice none 0 0),sc (int i64 0)],D.s (sc (int i64 n))]) (aM (aU (a,b,d)/\aU (h,i,j)) (aD (isNeg (bif eY.mZ (dv (a,b,d)) (dv (h,i,j))then eY.gZ (dv (a,b,d)) (dv (h,i,j))else((0:Int),(0:Int))).fst) fun o=>aD (M6.dg (bif eY.mZ (dv (a,b,d)) (dv (h,i,j))then eY.gZ (dv (a,b,d)) (dv (h,i,j))else((0:Int),(0:Int))).fst.natAbs) fun p=>aD (bif eY.mZ (dv (a,b,d)) (dv (h,i,j))then eY.gZ (dv (a,b,d)) (dv (h,i,j))else((0:Int),(0:Int))).snd fun q=>aD (bif eY.mZ (dv (a,b,d)) (dv (h,i,j))then(0:Int)else(5:Int)) fun r=>aB (r !=0) (some [D.agg [sc (bool false),sc (slice none 0 0),sc (int i64 0),sc (bool false),sc (slice none 0 0),sc (int i64 0)],D.s (sc (int i64 r))]) (aM (aU (a,b,d)/\aU (k,l,m)) (aD (isNeg (bif eY.mZ (dv (a,b,d)) (dv (k,l,m))then eY.gZ (dv (a,b,d)) (dv (k,l,m))else((0:Int),(0:Int))).fst) fun s=>aD (M6.dg (bif eY.mZ (dv (a,b,d)) (dv (k,l,m))then eY.gZ (dv (a,b,d)) (dv (k,l,m))else((0:Int),(0:Int))).fst.natAbs) fun t=>aD (bif eY.mZ (dv (a,b,d)) (dv (k,l,m))then eY.gZ (dv (a,b,d)) (dv (k,l,m))else((0:Int),(0:Int))).snd fun u=>aD (bif eY.mZ (dv (a,b,d)) (dv (k,l,m))then(0:Int)else(5:Int)) fun v=>aB (v !=0) (some [D.agg [sc (bool false),sc (slice none 0 0),sc (int i64 0),sc (bool false),sc (slice none 0 0),sc (int i64 0)],D.s (sc (int i64 v))]) (aM (aU (e,f,g)/\aU (h,i,j)) (aD (isNeg (bif eY.mZ (dv (e,f,g)) (dv (h,i,j))then eY.gZ (dv (e,f,g)) (dv (h,i,j))else((0:Int),(0:Int))).fst) fun w=>aD (M6.dg (bif eY.mZ (dv (e,f,g)) (dv (h,i,j))then eY.gZ (dv (e,f,g)) (dv (h,i,j))else((0:Int),(0:Int))).fst.natAbs) fun x=>aD (bif eY.mZ (dv (e,f,g)) (dv (h,i,j))then eY.gZ (dv (e,f,g)) (dv (h,i,j))else((0:Int),(0:Int))).snd fun y=>aD (bif eY.mZ (dv (e,f,g)) (dv (h,i,j))then(0:Int)else(5:Int)) fun z=>aB (z !=0) (some [D.agg [sc (bool false),sc (slice none 0 0),sc (int i64 0),sc (bool false),sc (slice none 0 0),sc (int i64 0)],D.s (sc (int i64 z))]) (aM (aU (e,f,g)/\aU (k,l,m)) (aD (isNeg (bif eY.mZ (dv (e,f,g)) (dv (k,l,m))then eY.gZ (dv (e,f,g)) (dv (k,l,m))else((0:Int),(0:Int))).fst) fun aa=>aD (M6.dg (bif eY.mZ (dv (e,f,g)) (dv (k,l,m))then eY.gZ (dv (e,f,g)) (dv (k,l,m))else((0:Int),(0:Int))).fst.natAbs) fun ab=>aD (bif eY.mZ (dv (e,f,g)) (dv (k,l,m))then eY.gZ (dv (e,f,g)) (dv (k,l,m))else((0:Int),(0:Int))).snd fun ac=>aD (bif eY.mZ (dv (e,f,g)) (dv (k,l,m))then(0:Int)else(5:Int)) fun ad=>aB (ad !=0) (some [D.agg [sc (bool false),sc (slice none 0 0),sc (int i64 0),sc (bool false),sc (slice none 0 0),sc (int i64 0)],D.s (sc (int i64 ad))]) (aM (aU (o,p,q)/\aU (s,t,u)/\aU (w,x,y)/\aU (aa,ab,ac)) (aD (SFirstL4.Kq ((o,p,q),(s,t,u),(w,x,y),aa,ab,ac)).fst fun ae=>aD (SFirstL4.Kq ((o,p,q),(s,t,u),(w,x,y),aa,ab,ac)).snd.fst fun af=>aD (SFirstL4.Kq ((o,p,q),(s,t,u),(w,x,y),aa,ab,ac)).snd.snd fun ag=>aM (aU (o,p,q)/\aU (s,t,u)/\aU (w,x,y)/\aU (aa,ab,ac)) (aD (SFirstG4.Kq ((o,p,q),(s,t,u),(w,x,y),aa,ab,ac)).fst fun ah=>aD (SFirstG4.Kq ((o,p,q),(s,t,u),(w,x,y),aa,ab,ac)).snd.fst fun ai=>aD (SFirstG4.Kq ((o,p,q),(s,t,u),(w,x,y),aa,ab,ac)).snd.snd fun aj=>aM (aU (ae,af,ag)/\aU (ah,ai,aj)/\(1<=c/\c<=70000)/\yR false (dv (ae,af,ag)) c=true/\yR true (dv (ah,ai,aj)) c=true) (aD (isNeg (M.shD false (dv (ae,af,ag)) c).fst) fun ak=>aD (M6.dg (M.shD false (dv (ae,af,ag)) c).fst.natAbs) fun al=>aD (M.shD false (dv (ae,af,ag)) c).snd fun am=>aD (isNeg (M.shD true (dv (ah,ai,aj)) c).fst) fun an=>aD (M6.dg (M.shD true (dv (ah,ai,aj)) c).fst.natAbs) fun ao=>aD (M.shD true (dv (ah,ai,aj)) c).snd fun ap=>some [D.agg [sc (bool ak),ints u64 al,sc (int i64 am),sc (bool an),ints u64 ao,sc (int i64 ap)],D.s (sc (int i64 0))]))))))))))))):=by kernel_rfl
def Bf(a b:(Int×Int)×(Int×Int)):Int×Int:=Nn (Nn (Nn (eY.gZ a.1 b.1) (eY.gZ a.1 b.2)) (eY.gZ a.2 b.1)) (eY.gZ a.2 b.2)
def Bg(a b:(Int×Int)×(Int×Int)):Int×Int:=Oj (Oj (Oj (eY.gZ a.1 b.1) (eY.gZ a.1 b.2)) (eY.gZ a.2 b.1)) (eY.gZ a.2 b.2)
def aUF(a b:(Int×Int)×(Int×Int)):Prop:=eY.mZ a.1 b.1=true/\eY.mZ a.1 b.2=true/\eY.mZ a.2 b.1=true/\eY.mZ a.2 b.2=true
abbrev eS(s:yN):(Int×Int)×(Int×Int):=(dv (iR s),dv (iS s))
def sp(s t:yN)(p:Int):Prop×List D:=((fA s/\fA t)/\(1<=p/\p<=70000)/\aUF (eS s) (eS t)/\yR false (Bf (eS s) (eS t)) p=true/\yR true (Bg (eS s) (eS t)) p=true,[wZ (shD false (Bf (eS s) (eS t)) p) (shD true (Bg (eS s) (eS t)) p),.s (.sc (.int .i64 0))])
theorem Li{p q:Int×Int}(h:eY.mZ p q=true):kT (eY.gZ p q):=by
 unfold eY.mZ at h;rw[cBK]at h;exact iF h.2 (of_decide_eq_true h.1)
theorem bVL(a:gW×gW×gW×gW):dv (SFirstL4.Kq a)=Nn (Nn (Nn (dv a.1) (dv a.2.1)) (dv a.2.2.1)) (dv a.2.2.2):=by
 have st:∀x y:gW,dv (bif decide (eR (dv x) (dv y)<0)then x else y)=Nn (dv y) (dv x):=by
  intro x y;unfold Nn;cases decide (eR (dv x) (dv y)<0) <;> rfl
 show dv (bif decide (eR (dv a.2.2.2) (dv (bif decide (eR (dv a.2.2.1) (dv (bif decide (eR (dv a.2.1) (dv a.1)<0)then a.2.1 else a.1))<0)then a.2.2.1 else(bif decide (eR (dv a.2.1) (dv a.1)<0)then a.2.1 else a.1)))<0)then a.2.2.2 else(bif decide (eR (dv a.2.2.1) (dv (bif decide (eR (dv a.2.1) (dv a.1)<0)then a.2.1 else a.1))<0)then a.2.2.1 else(bif decide (eR (dv a.2.1) (dv a.1)<0)then a.2.1 else a.1)))=_;rw[st,st,st]
theorem cAA(a:gW×gW×gW×gW):dv (SFirstG4.Kq a)=Oj (Oj (Oj (dv a.1) (dv a.2.1)) (dv a.2.2.1)) (dv a.2.2.2):=by
 have st:∀x y:gW,dv (bif decide (0<eR (dv x) (dv y))then x else y)=Oj (dv y) (dv x):=by
  intro x y;unfold Oj;cases decide (0<eR (dv x) (dv y)) <;> rfl
 show dv (bif decide (0<eR (dv a.2.2.2) (dv (bif decide (0<eR (dv a.2.2.1) (dv (bif decide (0<eR (dv a.2.1) (dv a.1))then a.2.1 else a.1)))then a.2.2.1 else(bif decide (0<eR (dv a.2.1) (dv a.1))then a.2.1 else a.1))))then a.2.2.2 else(bif decide (0<eR (dv a.2.2.1) (dv (bif decide (0<eR (dv a.2.1) (dv a.1))then a.2.1 else a.1)))then a.2.2.1 else(bif decide (0<eR (dv a.2.1) (dv a.1))then a.2.1 else a.1)))=_;rw[st,st,st]
theorem spec:oO E f114 aE Ab Ab (pN .i64) sp:=by
 rintro s t p ⟨⟨h1,h2⟩,hp,⟨m1,m2,m3,m4⟩,i1,i2⟩;have hL:aU (s.1,s.2.1,s.2.2.1):=h1.1;have hH:aU (s.2.2.2.1,s.2.2.2.2.1,s.2.2.2.2.2):=h1.2.1;have kL:aU (t.1,t.2.1,t.2.2.1):=h2.1;have kH:aU (t.2.2.2.1,t.2.2.2.2.1,t.2.2.2.2.2):=h2.2.1;refine(start s.1 s.2.1 s.2.2.1 s.2.2.2.1 s.2.2.2.2.1 s.2.2.2.2.2 t.1 t.2.1 t.2.2.1 t.2.2.2.1 t.2.2.2.2.1 t.2.2.2.2.2 p).trans ?_;unfold sp Bf Bg eS at *;dsimp only at *;unfold iR iS at *;generalize ha:dv (s.1,s.2.1,s.2.2.1)=a at *;generalize hb:dv (s.2.2.2.1,s.2.2.2.2.1,s.2.2.2.2.2)=b at *;generalize hc:dv (t.1,t.2.1,t.2.2.1)=c at *;generalize hd:dv (t.2.2.2.1,t.2.2.2.2.1,t.2.2.2.2.2)=d at *;have d1:=dV (Li m1);have d2:=dV (Li m2);have d3:=dV (Li m3);have d4:=dV (Li m4);have e1:=dY (eY.gZ a c);have e2:=dY (eY.gZ a d);have e3:=dY (eY.gZ b c);have e4:=dY (eY.gZ b d);rw[gP ⟨h1,h2⟩,aG,if_pos hp,gD rfl,gP ⟨hL,kL⟩];simp only[aG,m1,m2,m3,m4,cond_true];rw[gD rfl,gP ⟨hL,kH⟩,gD rfl,gP ⟨hH,kL⟩,gD rfl,gP ⟨hH,kH⟩,gD rfl];obtain⟨Q,hQ⟩:∃Q:gW×gW×gW×gW,Q=((isNeg (eY.gZ a c).1,M6.dg (eY.gZ a c).1.natAbs,(eY.gZ a c).2),(isNeg (eY.gZ a d).1,M6.dg (eY.gZ a d).1.natAbs,(eY.gZ a d).2),(isNeg (eY.gZ b c).1,M6.dg (eY.gZ b c).1.natAbs,(eY.gZ b c).2),(isNeg (eY.gZ b d).1,M6.dg (eY.gZ b d).1.natAbs,(eY.gZ b d).2)):=⟨_,rfl⟩;have dQ:aU Q.1/\aU Q.2.1/\aU Q.2.2.1/\aU Q.2.2.2:=by rw[hQ];exact⟨d1,d2,d3,d4⟩
 have v1:=bVL Q;have v2:=cAA Q;have k1:=SFirstL4.aDP dQ;have k2:=SFirstG4.aDP dQ;rw[show dv Q.1=eY.gZ a c by rw[hQ];exact e1,show dv Q.2.1=eY.gZ a d by rw[hQ];exact e2,show dv Q.2.2.1=eY.gZ b c by rw[hQ];exact e3,show dv Q.2.2.2=eY.gZ b d by rw[hQ];exact e4]at v1 v2;rw[gP ⟨d1,d2,d3,d4⟩,gP ⟨d1,d2,d3,d4⟩,<-hQ];rw[<-v1]at i1 ⊢;rw[<-v2]at i2 ⊢;exact gP ⟨k1,k2,hp,i1,i2⟩
def aI:dJ:=orc3 Ab Ab (pN .i64) sp
theorem fnok:uR prog E 114 f114 aE:=aJJ tN mixed (nJ _ rfl (aA zU.ok (aA eY.ok (aA Wg.ok (aA Wj.ok (aA Cg.ok aC))))) (pJ)) func114 rfl rfl rfl
theorem ok:mN prog base.glob 114 aI:=fnok.xX rfl spec
end SMul
end W
namespace M
open Go AI W
theorem Un{a b x:Rat}{y:Rat}(h1:a<=x)(h2:x<=b):(a*y<=x*y\/b*y<=x*y)/\(x*y<=a*y\/x*y<=b*y):=by
 by_cases h:0<=y
 ·have m1:=R.aJ (show 0<=x-a by grind) h;have m2:=R.aJ (show 0<=b-x by grind) h;exact⟨.inl (by grind),.inr (by grind)⟩
 ·have m1:=R.aJ (show 0<=x-a by grind) (show 0<=-y by grind);have m2:=R.aJ (show 0<=b-x by grind) (show 0<=-y by grind);exact⟨.inr (by grind),.inl (by grind)⟩
theorem aZQ{a b:(Int×Int)×(Int×Int)}{x y:Rat}(h1:R.qz a.1<=x)(h2:x<=R.qz a.2)(h3:R.qz b.1<=y)(h4:y<=R.qz b.2):R.qz (SMul.Bf a b)<=x*y/\x*y<=R.qz (SMul.Bg a b):=by
 obtain⟨l1,l2⟩:=aCI (eY.gZ a.1 b.1) (eY.gZ a.1 b.2);obtain⟨l3,l4⟩:=aCI (Nn (eY.gZ a.1 b.1) (eY.gZ a.1 b.2)) (eY.gZ a.2 b.1);obtain⟨l5,l6⟩:=aCI (Nn (Nn (eY.gZ a.1 b.1) (eY.gZ a.1 b.2)) (eY.gZ a.2 b.1)) (eY.gZ a.2 b.2);obtain⟨g1,g2⟩:=aDB (eY.gZ a.1 b.1) (eY.gZ a.1 b.2);obtain⟨g3,g4⟩:=aDB (Oj (eY.gZ a.1 b.1) (eY.gZ a.1 b.2)) (eY.gZ a.2 b.1);obtain⟨g5,g6⟩:=aDB (Oj (Oj (eY.gZ a.1 b.1) (eY.gZ a.1 b.2)) (eY.gZ a.2 b.1)) (eY.gZ a.2 b.2);change R.qz (SMul.Bf a b)<=_ at l5 l6;change _<=R.qz (SMul.Bg a b)at g5 g6;rw[Fy]at l1 l2 l4 l6 g1 g2 g4 g6;generalize R.qz (SMul.Bf a b)=L at *;generalize R.qz (SMul.Bg a b)=H at *;generalize R.qz (Nn (Nn (eY.gZ a.1 b.1) (eY.gZ a.1 b.2)) (eY.gZ a.2 b.1))=L2 at *;generalize R.qz (Nn (eY.gZ a.1 b.1) (eY.gZ a.1 b.2))=L1 at *;generalize R.qz (Oj (Oj (eY.gZ a.1 b.1) (eY.gZ a.1 b.2)) (eY.gZ a.2 b.1))=G2 at *;generalize R.qz (Oj (eY.gZ a.1 b.1) (eY.gZ a.1 b.2))=G1 at *;generalize R.qz a.1=a1 at *;generalize R.qz a.2=a2 at *;generalize R.qz b.1=b1 at *;generalize R.qz b.2=b2 at *;obtain⟨m1,m2⟩:=Un (y:=y) h1 h2;obtain⟨p1,p2⟩:=Un (y:=a1) h3 h4;obtain⟨q1,q2⟩:=Un (y:=a2) h3 h4;constructor
 ·rcases m1 with m |m
  ·rcases p1 with p |p <;> grind
  ·rcases q1 with q |q <;> grind
 ·rcases m2 with m |m
  ·rcases p2 with p |p <;> grind
  ·rcases q2 with q |q <;> grind
end M
namespace W
open Go AI M
namespace Wo
def E:=mE [(50,kG.aI)] 31 [] [] []
def aE:=bd f199
theorem aT:Nk E aE:=nk
theorem start a b c:aF E f199 aE [D.s (ints u64 a),D.s (ints u64 b),D.s (sc (int i64 c))]=letI C:=i64.wrap ((0:Int)-c);letI B:=bif iQ (wv (false,b)) C then aR (wv (false,b)) C else((0:Int),(0:Int));letI A:=bif iQ (wv (false,a)) C then aR (wv (false,a)) C else((0:Int),(0:Int));aM (iE (false,a)/\(-9223372036854775808:Int)<=i64.wrap ((0:Int)-c)/\i64.wrap ((0:Int)-c)<9223372036854775808) (aD (isNeg A.fst) fun d=>aD (M6.dg A.fst.natAbs) fun e=>aD A.snd fun f=>aM (iE (false,b)/\(-9223372036854775808:Int)<=i64.wrap ((0:Int)-c)/\i64.wrap ((0:Int)-c)<9223372036854775808) (aD (isNeg B.fst) fun g=>aD (M6.dg B.fst.natAbs) fun h=>aD B.snd fun i=>some [D.agg [sc (bool d),ints u64 e,sc (int i64 f),sc (bool g),ints u64 h,sc (int i64 i)],D.s (sc (int i64 0))])):=eJ aT
def sp(a b:List Int)(w:Int):Prop×List D:=(iE (false,a)/\iE (false,b)/\(-100000<=w/\w<=100000)/\iQ (wv (false,a)) (-w)=true/\iQ (wv (false,b)) (-w)=true,[wZ (aR (wv (false,a)) (-w)) (aR (wv (false,b)) (-w)),.s (.sc (.int .i64 0))])
theorem spec:oO E f199 aE (pI .u64) (pI .u64) (pN .i64) sp:=by
 rintro a b w ⟨ha,hb,hw,i1,i2⟩;have e:i64.wrap (0-w)=-w:=by rw[wrap_i64];omega
 refine(start a b w).trans ?_;rw[e,i1,i2,gP ⟨ha,by omega,by omega⟩];simp only[aG,cond_true];rw[gP ⟨hb,by omega,by omega⟩];rfl
def aI:dJ:=orc3 (pI .u64) (pI .u64) (pN .i64) sp
theorem ok:OK 199 aI:=(eB E aE (aA kG.ok aC) func199).xX rfl spec
end Wo
namespace aRV
def E:=mE [(100,wA.aI),(95,pS.aI),(199,Wo.aI)] 26 [23] [] []
def aE:=bd f153
theorem aT:Nk E aE:=nk
theorem start a b c:aF E f153 aE [D.s (ints u64 a),D.s (sc (int i64 b)),D.s (sc (int i64 c))]=letI F:=int i64 0;letI C:=M6.val a+M6.val (M6.dg 1);letI A:=aR (wv (false,a)) (-c);aB (b !=0) (some [D.agg [sc (bool false),sc (slice none 0 0),sc F,sc (bool false),sc (slice none 0 0),sc F],D.s (sc (int i64 b))]) (aM ((0:Int)<=(1:Int)/\(1:Int)<(18446744073709551616:Int)) (aM (M6.cG a/\M6.cG (M6.dg 1)/\a.length<=8192/\(M6.dg 1).length<=8192) (aD (bif dM.nT C then M6.dg C else []) fun d=>letI B:=aR (wv (false,d)) (-c);aM (iE (false,a)/\iE (false,d)/\((-100000:Int)<=c/\c<=100000)/\iQ (wv (false,a)) (-c)=true/\iQ (wv (false,d)) (-c)=true) (aD (isNeg A.fst) fun e=>aD (M6.dg A.fst.natAbs) fun f=>aD A.snd fun g=>aD (isNeg B.fst) fun h=>aD (M6.dg B.fst.natAbs) fun i=>aD B.snd fun j=>some [D.agg [sc (bool e),ints u64 f,sc (int i64 g),sc (bool h),ints u64 i,sc (int i64 j)],D.s (sc F)])))):=eJ aT
def sp(a:List Int)(e p:Int):Prop×List D:=(e=0/\M6.cG a/\bl (M6.val a)<=100000/\1<=p/\p<=70000,[wZ (aR (M6.val a:Int) (-p)) (aR ((M6.val a:Int)+1) (-p)),.s (.sc (.int .i64 0))])
theorem spec:oO E f153 aE (pI .u64) (pN .i64) (pN .i64) sp:=by
 rintro a e p ⟨rfl,ha,hb,p0,p1⟩;have hv:M6.val a<2^100000:=dK.1 hb;have bFR:M6.val a+1<2^100001:=by rw[cGD];omega
 have ok:=eF.aXF bFR (by omega);have la:a.length<=8192:=by
  have:=eF.mT hv (by omega);rwa [M6.Ln ha]at this
 have l1:(M6.dg 1).length<=8192:=eF.mT (k:=1) (by decide) (by omega);have e1:wv (false,a)=(M6.val a:Int):=rfl;have e2:wv (false,M6.dg (M6.val a+1))=(M6.val a:Int)+1:=by
  show((M6.val (M6.dg (M6.val a+1)):Nat):Int)=_;rw[M6.bD];omega
 have b1:bl (M6.val a+1)<=100001:=dK.2 bFR;have i1:iQ (M6.val a:Int) (-p)=true:=iM (by omega) (by rw[cGW];omega);have i2:iQ ((M6.val a:Int)+1) (-p)=true:=iM (by omega) (by rw[show((M6.val a:Int)+1).natAbs=M6.val a+1 by omega];omega);refine(start a 0 p).trans ?_;rw[gD rfl,gP ⟨by decide,by decide⟩,gP ⟨ha,M6.aY _,la,l1⟩,M6.bD,ok,cond_true,aG];refine(gP ⟨⟨ha,fun h=>(by cases h),la⟩,⟨M6.aY _,fun h=>(by cases h),eF.mT bFR (by omega)⟩,by omega,by rw[e1];exact i1,by rw[e2];exact i2⟩).trans ?_;rw[e1,e2];rfl
def aI:dJ:=orc3 (pI .u64) (pN .i64) (pN .i64) sp
theorem ok:OK 153 aI:=(eB E aE (aA wA.ok (aA pS.ok (aA Wo.ok aC))) func153).xX rfl spec
end aRV
namespace uQ
def E:=mE [(152,uB.aI),(153,aRV.aI)] 17 [14] [] []
def aE:=bd f112
theorem aT:Nk E aE:=nk
theorem start a:aF E f112 aE [D.s (sc (int i64 a))]=letI C:=M6.dg (R.pF a.toNat);letI A:=(↑(M6.val C):Int);letI F:=aR A (-a);letI B:=aR (A+(1:Int)) (-a);aM (1<=a/\a<=70000) (aM ((0:Int)=(0:Int)/\M6.cG C/\bl (M6.val C)<=100000/\1<=a/\a<=70000) (aD (isNeg F.fst) fun b=>aD (M6.dg F.fst.natAbs) fun c=>aD F.snd fun d=>aD (isNeg B.fst) fun e=>aD (M6.dg B.fst.natAbs) fun f=>aD B.snd fun g=>some [D.agg [sc (bool b),ints u64 c,sc (int i64 d),sc (bool e),ints u64 f,sc (int i64 g)],D.s (sc (int i64 0))])):=eJ aT
def vP(p:Int):(Int×Int)×(Int×Int):=(aR (R.pF p.toNat:Int) (-p),aR ((R.pF p.toNat:Int)+1) (-p))
def sp(p:Int):Prop×List D:=(1<=p/\p<=70000,[wZ (vP p).1 (vP p).2,.s (.sc (.int .i64 0))])
theorem aXE{p:Int}(h:1<=p/\p<=70000):bl (R.pF p.toNat)<=100000:=by
 obtain⟨q,rfl⟩:=cGG (show 0<=p by omega);rw[cFB];have h1:=(R.Bc (q:=q) (by omega)).1;obtain⟨_,p2⟩:=R.iP;have P:(0:Rat)<((2^q:Nat):Rat):=by exact_mod_cast cEE (n:=q) (show 0<2 by decide)
 have m:=R.aJ (cGL P) (show 0<=4-R.pi by grind);have h2:(R.pF q:Rat)<=((2^(q+2):Nat):Rat):=by
  have:((2^(q+2):Nat):Rat)=((2^q:Nat):Rat)*4:=by rw[cGE];push_cast;norm_cast
  grind
 have h3:R.pF q<=2^(q+2):=by exact_mod_cast h2
 have h4:R.pF q<2^(q+3):=by
  have:2^(q+3)=2*2^(q+2):=by rw[cGD];omega
  have:=cEE (n:=q+2) (show 0<2 by decide);omega
 have:=dK.2 h4;omega
theorem spec:iU E f112 aE (pN .i64) sp:=by
 intro p h;refine(start p).trans ((gP h).trans ?_);have b:=aXE h;refine(gP ⟨rfl,M6.aY _,by rw[M6.bD];exact b,h.1,h.2⟩).trans ?_;rw[M6.bD];rfl
def aI:dJ:=orc1 (pN .i64) sp
theorem ok:OK 112 aI:=(eB E aE (aA uB.ok (aA aRV.ok aC)) func112).oS rfl spec
end uQ
namespace iW
def E:=mE [(112,uQ.aI),(113,Fc.aI),(114,SMul.aI),(115,nR.aI),(116,cU.aI)] 48 [] [] []
def aE:=bd f64
theorem aT:Nk E aE:=nk
theorem start a c d b:aF E f64 aE [D.agg [sc (bool a),ints u64 c,sc (int i64 d)],D.s (sc (int i64 b))]=letI P:=uQ.vP b;letI F:=i64.wrap (b+8);letI A:=SMul.eS ((a,c,d).fst,(a,c,d).snd.fst,(a,c,d).snd.snd,(a,c,d).fst,(a,c,d).snd.fst,(a,c,d).snd.snd);aM (1<=b/\b<=70000) (aD (isNeg P.fst.fst) fun e=>aD (M6.dg P.fst.fst.natAbs) fun f=>aD P.fst.snd fun g=>aD (isNeg P.snd.fst) fun h=>aD (M6.dg P.snd.fst.natAbs) fun i=>aD P.snd.snd fun j=>letI Q:=(e,f,g,h,i,j);letI B:=SMul.eS Q;letI O:=M.shD true (SMul.Bg A B) F;letI I:=M.shD false (SMul.Bf A B) F;aM (aU (a,c,d)) (aM ((fA (a,c,d,a,c,d)/\fA Q)/\(1<=i64.wrap (b+8)/\i64.wrap (b+8)<=70000)/\SMul.aUF (dv (iR ((a,c,d).fst,(a,c,d).snd.fst,(a,c,d).snd.snd,(a,c,d).fst,(a,c,d).snd.fst,(a,c,d).snd.snd)),dv (iS ((a,c,d).fst,(a,c,d).snd.fst,(a,c,d).snd.snd,(a,c,d).fst,(a,c,d).snd.fst,(a,c,d).snd.snd))) (dv (iR Q),dv (iS Q))/\yR false (SMul.Bf A B) F=true/\yR true (SMul.Bg A B) F=true) (aD (isNeg I.fst) fun k=>aD (M6.dg I.fst.natAbs) fun l=>aD I.snd fun m=>aD (isNeg O.fst) fun n=>aD (M6.dg O.fst.natAbs) fun o=>aD O.snd fun p=>letI C:=(k,l,m,n,o,p);letI N:=fU.Ms (dv (iS C)) (b+2);letI K:=fU.Mr (dv (iR C)) (b+2);letI H:=bM.tT (dv (cU.Bt C)) (b+2);letI G:=bM.sZ (dv (cU.uW C)) (b+2);aM (nR.Xn C b) (aD (isNeg K.fst) fun q=>aD (M6.dg K.fst.natAbs) fun r=>aD K.snd fun s=>aD (isNeg N.fst) fun t=>aD (M6.dg N.fst.natAbs) fun u=>aD N.snd fun v=>aM (cU.aDN C b) (aD (isNeg H.fst) fun w=>aD (M6.dg H.fst.natAbs) fun x=>aD H.snd fun y=>aD (isNeg G.fst) fun z=>aD (M6.dg G.fst.natAbs) fun aa=>aD G.snd fun ab=>some [D.agg [sc (bool q),ints u64 r,sc (int i64 s),sc (bool t),ints u64 u,sc (int i64 v)],D.agg [sc (bool w),ints u64 x,sc (int i64 y),sc (bool z),ints u64 aa,sc (int i64 ab)]]))))):=eJ aT
def Fa(r:Int×Int)(q:Int):(Int×Int)×(Int×Int):=(shD false (SMul.Bf (r,r) (uQ.vP q)) (q+8),shD true (SMul.Bg (r,r) (uQ.vP q)) (q+8))
def bIR(r:Int×Int)(q:Int):yN:=nV (Fa r q).1 (Fa r q).2
def aWB(r:Int×Int)(q:Int):Prop:=fA (nV (uQ.vP q).1 (uQ.vP q).2)/\SMul.aUF (r,r) (uQ.vP q)/\yR false (SMul.Bf (r,r) (uQ.vP q)) (q+8)=true/\yR true (SMul.Bg (r,r) (uQ.vP q)) (q+8)=true/\nR.Xn (bIR r q) q/\cU.aDN (bIR r q) q
def sp(x:gW)(q:Int):Prop×List D:=(aU x/\(1<=q/\q<=66500)/\aWB (dv x) q,[wZ (gS (Fa (dv x) q).1 (Fa (dv x) q).2 (q+2)).1 (gS (Fa (dv x) q).1 (Fa (dv x) q).2 (q+2)).2,wZ (gC (Fa (dv x) q).1 (Fa (dv x) q).2 (q+2)).1 (gC (Fa (dv x) q).1 (Fa (dv x) q).2 (q+2)).2])
theorem fold(a b:Int×Int):(isNeg a.1,M6.dg a.1.natAbs,a.2,isNeg b.1,M6.dg b.1.natAbs,b.2)=nV a b:=rfl
theorem spec:fL E f64 aE kF (pN .i64) sp:=by
 rintro x q ⟨hx,hq,h1,h2,h3,h4,h5,h6⟩;obtain⟨a,b,c⟩:=x;have w:i64.wrap (q+8)=q+8:=wrap_i64;have eP:SMul.eS (nV (uQ.vP q).1 (uQ.vP q).2)=uQ.vP q:=by
  show(dv (iR (nV _ _)),dv (iS (nV _ _)))=_;rw[qE,qF]
 have sx:fA (a,b,c,a,b,c):=⟨hx,hx,Tf _⟩;refine(start a b c q).trans ((gP ⟨hq.1,by omega⟩).trans ?_);rw[aG,aG,aG,aG,aG,aG,fold,w,eP];refine(gP hx).trans ((gP ⟨⟨sx,h1⟩,⟨by omega,by omega⟩,by rw[qE,qF];exact h2,h3,h4⟩).trans ?_);rw[aG,aG,aG,aG,aG,aG,fold];have e1:dv (iR (bIR (dv (a,b,c)) q))=(Fa (dv (a,b,c)) q).1:=qE _ _;have e2:dv (iS (bIR (dv (a,b,c)) q))=(Fa (dv (a,b,c)) q).2:=qF _ _;have f:nV (M.shD false (SMul.Bf (SMul.eS (a,b,c,a,b,c)) (uQ.vP q)) (q+8)) (M.shD true (SMul.Bg (SMul.eS (a,b,c,a,b,c)) (uQ.vP q)) (q+8))=bIR (dv (a,b,c)) q:=rfl;change aM (nR.Xn (nV (M.shD false (SMul.Bf (SMul.eS (a,b,c,a,b,c)) (uQ.vP q)) (q+8)) (M.shD true (SMul.Bg (SMul.eS (a,b,c,a,b,c)) (uQ.vP q)) (q+8))) q) _=_;rw[f,gP h5,aG,aG,aG,aG,aG,aG,gP h6,e1,e2];rfl
def aI:dJ:=orc2 kF (pN .i64) sp
theorem ok:OK 64 aI:=(eB E aE (aA uQ.ok (aA Fc.ok (aA SMul.ok (aA nR.ok (aA cU.ok aC))))) func64).lF rfl spec
end iW
end W
namespace M
open Go AI W
structure bIT(r:Int×Int):Prop where
 xF:kT r
 b:bl r.1.natAbs<=1100
 e:-1100<=r.2/\r.2<=0
 q:R.ab (R.qz r)<=1/4
 g:R.pz (-1075)<=R.ab (R.qz r)
theorem aTU{q:Int}(hq:1<=q/\q<=66500):(kT (uQ.vP q).1/\kT (uQ.vP q).2)/\(bl (uQ.vP q).1.1.natAbs<=100001/\bl (uQ.vP q).2.1.natAbs<=100001)/\(-70000<=(uQ.vP q).1.2/\(uQ.vP q).1.2<=200000)/\(-70000<=(uQ.vP q).2.2/\(uQ.vP q).2.2<=200000)/\R.qz (uQ.vP q).1<=R.pi/\R.pi<=R.qz (uQ.vP q).2/\R.qz (uQ.vP q).2-R.qz (uQ.vP q).1=R.pz (-q):=by
 have hb:=uQ.aXE (p:=q) ⟨hq.1,by omega⟩;have aCZ:bl ((R.pF q.toNat:Int)+1).natAbs<=100001:=by
  have h1:=dK.1 hb;refine dK.2 ?_;rw[show((R.pF q.toNat:Int)+1).natAbs=R.pF q.toNat+1 by omega,cGD];omega
 have xQ:bl ((R.pF q.toNat:Int)).natAbs<=100001:=by rw[cGW];omega
 have i1:iQ (R.pF q.toNat:Int) (-q)=true:=iM (by omega) (by omega);have i2:iQ ((R.pF q.toNat:Int)+1) (-q)=true:=iM (by omega) (by omega);have ex:∀z:Int,bl z.natAbs<=100001->-70000<=(aR z (-q)).2/\(aR z (-q)).2<=200000:=by
  intro z hz
  by_cases h0:z=0
  ·rw[h0,fR];decide
  ·have h1:=tF (e:=-q) h0;have h2:=(mB (e:=-q) h0).2;have h3:=Jp (n:=z.natAbs) (by omega);have h4:tz z.natAbs<=100001:=by
    rcases Nat.lt_or_ge 100001 (tz z.natAbs)with h |h
    ·have:=dK.1 hz;have h5:2^100001<=2^tz z.natAbs:=fK;omega
    ·exact h
   omega
 have fl:=R.Bc (q:=q.toNat) (by omega);have P:=R.aBZ q;have e:R.pz q=((2^q.toNat:Nat):Rat):=by
  have:=R.nD q.toNat;rwa [show((q.toNat:Nat):Int)=q by omega]at this
 rw[<-e]at fl;have z0:=R.dW (-q);have m1:=R.aJ (cGL z0) (show 0<=R.pz q*R.pi-(R.pF q.toNat:Rat) by grind);have m2:=R.aJ (cGL z0) (show 0<=(R.pF q.toNat:Rat)+1-R.pz q*R.pi by grind);have k:R.pz (-q)*(R.pz q*R.pi)=R.pi:=by rw[<-cMO,Rat.mul_comm (R.pz (-q)),P];grind
 have q1:R.qz (uQ.vP q).1=(R.pF q.toNat:Rat)*R.pz (-q):=by
  show R.qz (aR _ _)=_;rw[pC,cMQ]
 have q2:R.qz (uQ.vP q).2=((R.pF q.toNat:Rat)+1)*R.pz (-q):=by
  show R.qz (aR _ _)=_;rw[pC,cOG,cMQ,show((1:Int):Rat)=1 by norm_cast]
 rw[q1,q2];exact⟨⟨iF i1 (by omega),iF i2 (by omega)⟩,⟨cCA (xG _ _) xQ,cCA (xG _ _) aCZ⟩,ex _ xQ,ex _ aCZ,by grind,by grind,by grind⟩
theorem aNU{a b:Int×Int}{m n:Nat}(ha:bl a.1.natAbs<=m)(hb:bl b.1.natAbs<=n)(h:m+n<=524288)(e1:-1048576<=a.2+b.2)(e2:a.2+b.2<=500000):eY.mZ a b=true/\kT (eY.gZ a b):=by
 have b0:=cCA (Ja a.1.natAbs b.1.natAbs) (Nat.add_le_add ha hb);rw[<-Int.natAbs_mul]at b0;have i:iQ (a.1*b.1) (a.2+b.2)=true:=iM (by omega) (by omega);refine⟨?_,iF i (by omega)⟩;unfold eY.mZ fit;rw[i,decide_eq_true (by omega)];rfl
theorem bCG{r:Int×Int}{p:Int}(h:bIT r)(hp:1<=p/\p<=66000):iW.aWB r (p+16)/\bQD (iW.Fa r (p+16)).1 (iW.Fa r (p+16)).2 (p-6) (p+18) (R.qz r*R.pi):=by
 obtain⟨aIV,hb,he,hq,hg⟩:=h;obtain⟨⟨u1,u2⟩,⟨b1,b2⟩,x1,x2,l1,l2,w⟩:=aTU (q:=p+16) (by omega);obtain⟨o1,n1⟩:=aNU hb b1 (by omega) (by omega) (by omega);obtain⟨o2,n2⟩:=aNU hb b2 (by omega) (by omega) (by omega);have sP:fA (nV (uQ.vP (p+16)).1 (uQ.vP (p+16)).2):=yW u1 u2 (mI.2 (by grind));have mo:SMul.aUF (r,r) (uQ.vP (p+16)):=⟨o1,o2,o1,o2⟩;obtain⟨g1,g2⟩:=aZQ (a:=(r,r)) (b:=uQ.vP (p+16)) (x:=R.qz r) (y:=R.pi) cHS cHS l1 l2;have pL:kT (SMul.Bf (r,r) (uQ.vP (p+16)))/\(R.qz (SMul.Bf (r,r) (uQ.vP (p+16)))=R.qz r*R.qz (uQ.vP (p+16)).1\/R.qz (SMul.Bf (r,r) (uQ.vP (p+16)))=R.qz r*R.qz (uQ.vP (p+16)).2):=by
  unfold SMul.Bf;rw[<-Fy,<-Fy];have ls:∀{s t:Int×Int} {A B:Rat},(kT s/\(R.qz s=A\/R.qz s=B))->(kT t/\(R.qz t=A\/R.qz t=B))->kT (Nn s t)/\(R.qz (Nn s t)=A\/R.qz (Nn s t)=B):=by
   intro s t A B hs ht;rcases aZS s t with h |h <;> rw[h] <;> assumption
  exact ls (ls (ls ⟨n1,.inl rfl⟩ ⟨n2,.inr rfl⟩) ⟨n1,.inl rfl⟩) ⟨n2,.inr rfl⟩
 have pH:kT (SMul.Bg (r,r) (uQ.vP (p+16)))/\(R.qz (SMul.Bg (r,r) (uQ.vP (p+16)))=R.qz r*R.qz (uQ.vP (p+16)).1\/R.qz (SMul.Bg (r,r) (uQ.vP (p+16)))=R.qz r*R.qz (uQ.vP (p+16)).2):=by
  unfold SMul.Bg;rw[<-Fy,<-Fy];have ls:∀{s t:Int×Int} {A B:Rat},(kT s/\(R.qz s=A\/R.qz s=B))->(kT t/\(R.qz t=A\/R.qz t=B))->kT (Oj s t)/\(R.qz (Oj s t)=A\/R.qz (Oj s t)=B):=by
   intro s t A B hs ht;rcases bBG s t with h |h <;> rw[h] <;> assumption
  exact ls (ls (ls ⟨n1,.inl rfl⟩ ⟨n2,.inr rfl⟩) ⟨n1,.inl rfl⟩) ⟨n2,.inr rfl⟩
 have z0:=R.dW (-(p+16));have zs:R.pz (-(p+16))<=1/131072:=by
  have:=aZE (p:=p-7) (by omega);rwa [show -(p-7)-23=-(p+16) by omega]at this
 obtain⟨bUX,bUW⟩:=R.iP;generalize hL:SMul.Bf (r,r) (uQ.vP (p+16))=L at *;generalize hH:SMul.Bg (r,r) (uQ.vP (p+16))=H at *;generalize aPG:R.qz (uQ.vP (p+16)).1=P1 at *;generalize bSV:R.qz (uQ.vP (p+16)).2=P2 at *;generalize hz:R.pz (-(p+16))=z at *;have aOG:R.pz (-(p+16)-1)=z/2:=by
  have:=R.sE (-(p+16));rw[hz]at this;grind
 have a0:=R.aP (R.qz r);have bPZ:∀(x y:Rat),0<=y->R.ab (x*y)=R.ab x*y:=fun x y hy=>by rw[R.fX,R.bR hy]
 have p1:0<=P1:=by grind
 have p2:0<=P2:=by grind
 have bTN:∀x:Rat,x=R.qz r*P1\/x=R.qz r*P2->R.ab x<=R.ab (R.qz r)*(16/5)/\R.ab x<=1:=by
  intro x hx;have m1:=R.aJ a0 (show 0<=16/5-P1 by grind);have m2:=R.aJ a0 (show 0<=16/5-P2 by grind);rcases hx with h |h
  ·rw[h,bPZ _ _ p1];grind
  ·rw[h,bPZ _ _ p2];grind
 obtain⟨bL,cL⟩:=bTN _ pL.2;obtain⟨bH,cH⟩:=bTN _ pH.2;have wd:R.qz H-R.qz L<=R.ab (R.qz r)*z:=by
  have t1:=R.Ec (R.qz r);have t2:=R.oU (R.qz r);have m1:=R.aJ (show 0<=R.ab (R.qz r)-R.qz r by grind) (cGL z0);have m2:=R.aJ (show 0<=R.ab (R.qz r)+R.qz r by grind) (cGL z0);have m3:=R.aJ a0 (cGL z0);have e:R.qz r*P2=R.qz r*P1+R.qz r*z:=by
   rw[show P2=P1+z by grind];grind
  rcases pL.2 with h |h <;> rcases pH.2 with h' |h' <;> rw[h,h'] <;> grind
 have bKS:(1:Rat)<=R.pz 1100:=by rw[<-R.gR];exact R.cX (by decide)
 obtain⟨i1,i2,bx⟩:=aFY (s:=(L,H)) (V:=R.qz r*R.pi) (m:=0) (n:=p+16+8) pL.1 pH.1 cHS (by dsimp only;grind) (by dsimp only;grind) wd (by omega) (by dsimp only;grind) (by dsimp only;grind);have eA:iW.Fa r (p+16)=(shD false L (p+16+8),shD true H (p+16+8)):=by
  unfold iW.Fa;rw[hL,hH]
 have e7:R.pz (1-(p+16+8))*128=z:=by
  have:=R.gL (-(p+16)) (n:=7) (c:=128) (by norm_cast);rw[<-hz,<-this,show 1-(p+16+8)=-(p+16)-((7:Nat):Int) by omega]
 have bCE:R.ab (R.qz r*R.pi)=R.ab (R.qz r)*R.pi:=bPZ _ _ (by grind);have bUB:R.pz (-1074)=2*R.pz (-1075):=by
  have:=R.sE (-1074);rw[show(-1074:Int)-1=-1075 by rfl]at this;grind
 have tr:=aMA (l:=(iW.Fa r (p+16)).1) (h:=(iW.Fa r (p+16)).2) (p:=p-6) (n:=p+18) (r:=R.qz r*R.pi) (by omega) (by omega) (by rw[eA];exact bx.pl) (by rw[eA];exact bx.ph) (by rw[eA];have:=bx.lo;dsimp only at this ⊢;grind) (by rw[eA];have:=bx.hi;dsimp only at this ⊢;grind)
  (by
   rw[eA,bCE,show -(p-6)-23=-(p+16)-1 by omega,aOG];have w2:=bx.wd;dsimp only at w2 ⊢;have m1:=R.aJ (cGL z0) a0;have m2:=R.aJ (cGL z0) (show 0<=R.ab (R.qz r)*(16/5)-R.ab (R.qz L) by grind);have m3:=R.aJ (cGL z0) (show 0<=R.ab (R.qz r)*(16/5)-R.ab (R.qz H) by grind);have m4:=R.aJ (R.aJ (cGL z0) a0) (show 0<=R.pi-3 by grind);have e8:R.pz (1-(p+16+8))*(R.ab (R.qz L)+R.ab (R.qz H))*128=z*(R.ab (R.qz L)+R.ab (R.qz H)):=by rw[<-e7];grind
   grind)
  (by
   rw[bCE,bUB];have m1:=R.aJ a0 (show 0<=R.pi-3 by grind);grind)
  (by
   rw[bCE];have m1:=R.aJ a0 (show 0<=314160/100000-R.pi by grind);grind)
 refine⟨⟨sP,mo,by rw[hL];exact i1,by rw[hH];exact i2,?_,?_⟩,tr⟩
 ·have:=tr.so;rw[show p+18-2=p+16 by omega]at this;exact this
 ·have:=tr.co;rw[show p+18-2=p+16 by omega]at this;exact this
end M
namespace W
open Go AI M
namespace mR
def E:=mE [(20,lD.aI),(119,jV.aI)] 41 [] [(2,[0,4,7,8,10,15,16])] []
def aE:=bd f66
theorem aT:Nk E aE:=nk
def L2 a b c d e f g h i j k l m n o p q r s t:=pZ E f66 aE 2 [bN a,bN b,dS 2 44 [dG c,gO d,cP e,dG f,gO g,cP h],dS 3 44 [dG i,gO j,cP k,dG l,gO m,cP n],dS 4 44 [dG o,sc (slice none 0 0),cP p,dG q,sc (slice none 0 0),cP r],bN s,bN t]
theorem start a b c d f g h i j k l m n o e:aF E f66 aE [D.s (sc (int i64 a)),D.s (sc (int i64 b)),D.agg [sc (bool c),ints u64 d,sc (int i64 f),sc (bool g),ints u64 h,sc (int i64 i)],D.agg [sc (bool j),ints u64 k,sc (int i64 l),sc (bool m),ints u64 n,sc (int i64 o)],D.s (sc (int i64 e))]=mR.L2 a e c d f g h i j k l m n o false 0 false 0 b 0:=eJ aT
theorem mK a b c d e f g h i j k l m n o p q r s t:L2 a b c d e f g h i j k l m n o p q r s t=letI F:=(i,j,k,l,m,n);letI O:=dv (iS F);letI N:=dv (iR F);letI C:=(c,d,e,f,g,h);letI H:=dv (iS C);letI G:=dv (iR C);letI B:=jV.Nc b G H N O;letI K:=aR B.fst B.snd;letI A:=jV.Nb b G H N O;letI I:=aR A.fst A.snd;aB (decide (t<s)) (aM (fA C) (aD (isNeg (-H.fst)) fun u=>aD (M6.dg (-H.fst).natAbs) fun v=>aD H.snd fun w=>aD (isNeg (-G.fst)) fun x=>aD (M6.dg (-G.fst).natAbs) fun y=>aD G.snd fun z=>mR.L2 a b i j k l m n u v w x y z o p q r s (i64.wrap (t+1)))) (aB (a==4) (some [D.agg [sc (bool c),ints u64 d,sc (int i64 e),sc (bool f),ints u64 g,sc (int i64 h)]]) (aB (a==5) (some [D.agg [sc (bool i),ints u64 j,sc (int i64 k),sc (bool l),ints u64 m,sc (int i64 n)]]) (aM (fA C/\fA F/\(1<=b/\b<=70000)/\fY.uG N O≠0/\(bl G.fst.natAbs<=262144/\bl H.fst.natAbs<=262144/\bl N.fst.natAbs<=262144/\bl O.fst.natAbs<=262144)/\iQ A.fst A.snd=true/\iQ B.fst B.snd=true) (aD (isNeg I.fst) fun aa=>aD (M6.dg I.fst.natAbs) fun ab=>aD I.snd fun ac=>aD (isNeg K.fst) fun ad=>aD (M6.dg K.fst.natAbs) fun ae=>aD K.snd fun af=>some [D.agg [sc (bool aa),ints u64 ab,sc (int i64 ac),sc (bool ad),ints u64 ae,sc (int i64 af)]])))):=lJ aT
def aWS (fn : Int) (n : Nat) (s c : (Int × Int) × (Int × Int)) (q : Int) : (Int × Int) × (Int × Int) :=
  bif fn == 4 then (VTurned.trn s c n).1 else bif fn == 5 then (VTurned.trn s c n).2 else
    (aR (jV.Nb q (VTurned.trn s c n).1.1 (VTurned.trn s c n).1.2 (VTurned.trn s c n).2.1 (VTurned.trn s c n).2.2).1 (jV.Nb q (VTurned.trn s c n).1.1 (VTurned.trn s c n).1.2 (VTurned.trn s c n).2.1 (VTurned.trn s c n).2.2).2,
     aR (jV.Nc q (VTurned.trn s c n).1.1 (VTurned.trn s c n).1.2 (VTurned.trn s c n).2.1 (VTurned.trn s c n).2.2).1 (jV.Nc q (VTurned.trn s c n).1.1 (VTurned.trn s c n).1.2 (VTurned.trn s c n).2.1 (VTurned.trn s c n).2.2).2)
def aTQ(q:Int)(s c:(Int×Int)×(Int×Int)):Prop:=fY.uG c.1 c.2≠0/\(bl s.1.1.natAbs<=262144/\bl s.2.1.natAbs<=262144/\bl c.1.1.natAbs<=262144/\bl c.2.1.natAbs<=262144)/\iQ (jV.Nb q s.1 s.2 c.1 c.2).1 (jV.Nb q s.1 s.2 c.1 c.2).2=true/\iQ (jV.Nc q s.1 s.2 c.1 c.2).1 (jV.Nc q s.1 s.2 c.1 c.2).2=true
abbrev eS(s:yN):(Int×Int)×(Int×Int):=(dv (iR s),dv (iS s))
def sp(fn k:Int)(s c:yN)(q:Int):Prop×List D:=((fA s/\fA c)/\(0<=k/\k<=3)/\(1<=q/\q<=70000)/\(fn≠4->fn≠5->aTQ q (VTurned.trn (eS s) (eS c) k.toNat).1 (VTurned.trn (eS s) (eS c) k.toNat).2),[wZ (aWS fn k.toNat (eS s) (eS c) q).1 (aWS fn k.toNat (eS s) (eS c) q).2])
theorem L(fn q:Int)(hq:1<=q/\q<=70000):∀(d k:Nat) (s c:yN),k+d<=1000->fA s->fA c->(fn≠4->fn≠5->aTQ q (VTurned.trn (eS s) (eS c) d).1 (VTurned.trn (eS s) (eS c) d).2) ->
  L2 fn q s.1 s.2.1 s.2.2.1 s.2.2.2.1 s.2.2.2.2.1 s.2.2.2.2.2 c.1 c.2.1 c.2.2.1 c.2.2.2.1 c.2.2.2.2.1 c.2.2.2.2.2 false 0 false 0 ((k+d:Nat):Int) (k:Int)=some [wZ (aWS fn d (eS s) (eS c) q).1 (aWS fn d (eS s) (eS c) q).2]
 |0,k,s,c,h,h1,h2,hk=>by
  rw[mK,aL];unfold aWS VTurned.trn;unfold VTurned.trn at hk;dsimp only at hk ⊢
  by_cases f4:fn=4
  ·rw[bI f4,f4];show _=some [wZ (dv (iR s)) (dv (iS s))];rw[h1.wZ]
  ·rw[bA f4,beq_eq_false_iff_ne.2 f4,cond_false]
   by_cases f5:fn=5
   ·rw[bI f5,f5];show _=some [wZ (dv (iR c)) (dv (iS c))];rw[h2.wZ]
   ·rw[bA f5,beq_eq_false_iff_ne.2 f5,cond_false];obtain⟨k0,k1,k2,k3⟩:=hk f4 f5;exact gP ⟨h1,h2,hq,k0,k1,k2,k3⟩
 |d+1,k,s,c,h,h1,h2,hk=>by
  have e:i64.wrap ((k:Int)+1)=((k+1:Nat):Int):=by rw[wrap_i64];omega
  rw[mK,aN,gP h1];simp only[aG,e];have en:eS (nV (lD.yC (dv (iS s))) (lD.yC (dv (iR s))))=(lD.yC (dv (iS s)),lD.yC (dv (iR s))):=by
   show(dv (iR (nV _ _)),dv (iS (nV _ _)))=_;rw[qE,qF]
  have r:=L fn q hq d (k+1) c (nV (lD.yC (dv (iS s))) (lD.yC (dv (iR s)))) (by omega) h2 (VTurned.aNS h1) (by rw[en];exact hk);rw[en,show k+1+d=k+(d+1) by omega]at r;exact r
theorem spec(fn k:Int)(s c:yN)(q:Int)(h:(sp fn k s c q).1):aF E f66 aE [(pN .i64).put fn,(pN .i64).put k,Ab.put s,Ab.put c,(pN .i64).put q]=some (sp fn k s c q).2:=by
 obtain⟨⟨h1,h2⟩,⟨q0,q1⟩,hq,hk⟩:=h;refine(start fn k s.1 s.2.1 s.2.2.1 s.2.2.2.1 s.2.2.2.2.1 s.2.2.2.2.2 c.1 c.2.1 c.2.2.1 c.2.2.2.1 c.2.2.2.2.1 c.2.2.2.2.2 q).trans ?_;obtain⟨n,rfl⟩:=cGG q0;have:=L fn q hq n 0 s c (by omega) h1 h2 hk;rw[cBG]at this;exact this
def aI:dJ:=orc5 (pN .i64) (pN .i64) Ab Ab (pN .i64) sp
theorem ok:OK 66 aI:=(eB E aE (aA lD.ok (aA jV.ok aC)) func66).bLL rfl spec
end mR
end W
namespace M
open Go AI W
def tv(fn k:Int)(s c:Rat):Rat:=if fn=4 then R.rs k s c else if fn=5 then R.rc k s c else R.rs k s c/R.rc k s c
def tS(r:Int×Int)(p:Int):(Int×Int)×(Int×Int):=gS (iW.Fa r (p+16)).1 (iW.Fa r (p+16)).2 (p+18)
def tC(r:Int×Int)(p:Int):(Int×Int)×(Int×Int):=gC (iW.Fa r (p+16)).1 (iW.Fa r (p+16)).2 (p+18)
def tE(fn k:Int)(r:Int×Int)(p:Int):(Int×Int)×(Int×Int):=mR.aWS fn (k%4).toNat (tS r p) (tC r p) (p+16)
def tO(fn k:Int)(r:Int×Int)(p:Int):(Int×Int)×(Int×Int):=(shD false (tE fn k r p).1 (p+20),shD true (tE fn k r p).2 (p+20))
structure cAX(fn k:Int)(r:Int×Int)(p:Int):Prop where
 ci:iW.aWB r (p+16)
 sS:fA (nV (tS r p).1 (tS r p).2)
 sC:fA (nV (tC r p).1 (tC r p).2)
 qu:mR.aTQ (p+16) (VTurned.trn (tS r p) (tC r p) (k%4).toNat).1 (VTurned.trn (tS r p) (tC r p) (k%4).toNat).2
 re:fA (nV (tE fn k r p).1 (tE fn k r p).2)
 s1:yR false (tE fn k r p).1 (p+20)=true
 s2:yR true (tE fn k r p).2 (p+20)=true
 v0:tv fn k (R.sn (R.qz r*R.pi)) (R.cs (R.qz r*R.pi))≠0
 vl:R.pz (-1075)<=R.ab (tv fn k (R.sn (R.qz r*R.pi)) (R.cs (R.qz r*R.pi)))
 vh:R.ab (tv fn k (R.sn (R.qz r*R.pi)) (R.cs (R.qz r*R.pi)))<=R.pz 1075
 bx:Bx (tO fn k r p) (tv fn k (R.sn (R.qz r*R.pi)) (R.cs (R.qz r*R.pi))) (R.pz (-p-1)*R.ab (tv fn k (R.sn (R.qz r*R.pi)) (R.cs (R.qz r*R.pi)))) (mg (p-6))
 b45:fn=4\/fn=5->Bx (tO fn k r p) (tv fn k (R.sn (R.qz r*R.pi)) (R.cs (R.qz r*R.pi))) (R.pz (-p-5)*R.ab (tv fn k (R.sn (R.qz r*R.pi)) (R.cs (R.qz r*R.pi)))) (mg (p-6))
 bits:(bl (tO fn k r p).1.1.natAbs:Int)<=p+21/\(bl (tO fn k r p).2.1.natAbs:Int)<=p+21
 exps:-p-1200<=(tO fn k r p).1.2/\-p-1200<=(tO fn k r p).2.2
 on:fn=4\/fn=5->On (tO fn k r p)
theorem aHN{s:(Int×Int)×(Int×Int)}{V ρ m:Rat}(h:Bx s V (ρ*R.ab V) m)(r1:ρ<=1/4)(V0:V≠0) :
  3/4*R.ab V<=R.ab (R.qz s.1)/\R.ab (R.qz s.1)<=5/4*R.ab V/\3/4*R.ab V<=R.ab (R.qz s.2)/\R.ab (R.qz s.2)<=5/4*R.ab V/\0<R.ab V:=by
 obtain⟨_,_,_,_,m0,lo,hi,wd⟩:=h;have a0:0<R.ab V:=by
  unfold R.ab;split <;> grind
 have k:=R.aJ (cGL a0) (show 0<=1/4-ρ by grind);generalize hρ:ρ*R.ab V=W at *
 by_cases c:0<V
 ·have e:R.ab V=V:=R.bR (cGL c);rw[e]at a0 k hρ;rw[e];rw[R.bR (show 0<=R.qz s.1 by grind),R.bR (show 0<=R.qz s.2 by grind)];exact⟨by grind,by grind,by grind,by grind,c⟩
 ·have e:R.ab V=-V:=by unfold R.ab;rw[if_neg (by grind)]
  rw[e]at a0 k hρ;rw[e];rw[<-R.jM,R.bR (show 0<=-R.qz s.1 by grind),<-R.jM,R.bR (show 0<=-R.qz s.2 by grind)];exact⟨by grind,by grind,by grind,by grind,by grind⟩
theorem aLY{fn k:Int}{r:Int×Int}{p:Int}(h:bIT r)(hp:1<=p/\p<=66000)(hf:fn=4\/fn=5\/fn=6):cAX fn k r p:=by
 obtain⟨ci,tr⟩:=bCG h hp;obtain⟨_,_,bs,bc,os,oc⟩:=tr;obtain⟨ρ,hρ⟩:∃ρ,ρ=R.qz r*R.pi:=⟨_,rfl⟩;obtain⟨bUX,bUW⟩:=R.iP;have ar:R.ab ρ=R.ab (R.qz r)*R.pi:=by rw[hρ,R.fX,R.bR (show 0<=R.pi by grind)]
 have a0:=R.aP (R.qz r);have rg:3*R.pz (-1075)<=R.ab ρ:=by
  rw[ar];have:=h.g;have:=R.aJ a0 (show 0<=R.pi-3 by grind);grind
 have rn:R.ab ρ<=79/100:=by
  rw[ar];have:=h.q;have:=R.aJ a0 (show 0<=314160/100000-R.pi by grind);grind
 rw[<-hρ]at bs bc;rw[show gS (iW.Fa r (p+16)).1 (iW.Fa r (p+16)).2 (p+18)=tS r p from rfl]at bs os;rw[show gC (iW.Fa r (p+16)).1 (iW.Fa r (p+16)).2 (p+18)=tC r p from rfl]at bc oc;rw[show -(p-6)-12=-p-6 by omega]at bs bc;have bLF:=R.dW (-1075);have bVO:R.pz (-1075)<=1/4:=by
  have:=R.cX (show(-1075:Int)<=-2 by omega);have e:=R.gL 0 (n:=2) (c:=4) (by norm_cast);rw[R.gR,show(0:Int)-((2:Nat):Int)=-2 by rfl]at e;grind
 obtain⟨c1,c2⟩:=R.Zt (r:=ρ) (by grind);have s0:R.pz (-1075)<=R.ab (R.sn ρ)/\R.ab (R.sn ρ)<=1:=by
  rw[<-R.aMX (by grind)];obtain⟨a,b⟩:=R.aFD (R.aP ρ) (by grind);constructor <;> grind
 have s1:R.pz (-1075)<=R.ab (R.cs ρ)/\R.ab (R.cs ρ)<=1:=by
  rw[R.bR (show 0<=R.cs ρ by grind)];constructor <;> grind
 obtain⟨S,hS⟩:∃S,S=R.rs k (R.sn ρ) (R.cs ρ):=⟨_,rfl⟩;obtain⟨C,hC⟩:∃C,C=R.rc k (R.sn ρ) (R.cs ρ):=⟨_,rfl⟩;have sS:R.pz (-1075)<=R.ab S/\R.ab S<=1:=by
  rw[hS,aFM];split <;> assumption
 have sC:R.pz (-1075)<=R.ab C/\R.ab C<=1:=by
  rw[hC,aFP];split <;> assumption
 have Nm:∀v:Rat,R.pz (-1075)<=R.ab v->v≠0:=fun v hv hz=>by rw[hz,R.bR cHS]at hv;grind
 have S0:=Nm _ sS.1;have C0:=Nm _ sC.1;obtain⟨z,hz⟩:∃z,z=R.pz (-p-20):=⟨_,rfl⟩;have z0:=R.dW (-p-20);rw[<-hz]at z0;have pw:∀(a:Int) (n:Nat) (c:Rat),a=-p-20+(n:Int)->((2^n:Nat):Rat)=c->R.pz a=c*z:=fun a n c ha hc=>by
  rw[ha,R.eN,hc,hz];grind
 have e6:=pw (-p-6) 14 16384 (by omega) (by norm_cast);have e5:=pw (-p-5) 15 32768 (by omega) (by norm_cast);have e1:=pw (-p-1) 19 524288 (by omega) (by norm_cast);have aLI:=pw (2-(p+16)) 6 64 (by omega) (by norm_cast);have bKR:=pw (1-(p+20)) 1 2 (by omega) (by norm_cast);have zs:z<=1/2097152:=by
  have:=R.cX (show -p-20<=-21 by omega);have e:=R.gL 0 (n:=21) (c:=2097152) (by norm_cast);rw[R.gR,show(0:Int)-((21:Nat):Int)=-21 by rfl]at e;grind
 obtain⟨b1,b2⟩:=Bx.trn bs bc (k:=k);rw[<-hS]at b1;rw[<-hC]at b2;have aZO:=On.trn os oc (k%4).toNat;obtain⟨t,ht⟩:∃t,t=VTurned.trn (tS r p) (tC r p) (k%4).toNat:=⟨_,rfl⟩;rw[<-ht]at b1 b2 aZO;have b1:Bx t.1 S (R.pz (-p-6)*R.ab S) (mg (p-6)):=by
  refine yJ b1 ?_;rw[hS,aFM];split <;> exact cHS
 have b2:Bx t.2 C (R.pz (-p-6)*R.ab C) (mg (p-6)):=by
  refine yJ b2 ?_;rw[hC,aFP];split <;> exact cHS
 rw[e6]at b1 b2;have n1:=Iy b1 (by grind) S0;have n2:=Iy b2 (by grind) C0;have bHY:R.pz (-1300)<=R.pz (-1075)/2:=by
  have:=R.sE (-1075);have:=R.cX (show(-1300:Int)<=-1075-1 by omega);grind
 have z1:Ks t.1.1:=Az b1.bl (uX (by grind)) (by grind) (by grind);have z2:Ks t.1.2:=Az b1.bh (uX (by grind)) (by grind) (by grind);have z3:Ks t.2.1:=Az b2.bl (uX (by grind)) (by grind) (by grind);have z4:Ks t.2.2:=Az b2.bh (uX (by grind)) (by grind) (by grind);have bHT:S/C*C=S:=by grind
 obtain⟨q0,q1,q2,bq⟩:=aNF (p:=p+16) b1 b2 S0 C0 sC.2 (by grind) (by grind) bHT (by omega) z1 z2 z3 z4;rw[aLI]at bq;have aV:R.ab (S/C)*R.ab C=R.ab S:=by rw[<-R.fX,bHT]
 have bVS:R.pz (-1075)*R.pz 1075=1:=by rw[<-R.kS];exact R.gR
 have cAZ:1<=R.pz 1075:=by rw[<-R.gR];exact R.cX (by omega)
 have tV:R.pz (-1075)<=R.ab (S/C)/\R.ab (S/C)<=R.pz 1075:=by
  have a0:=R.aP (S/C);generalize R.ab (S/C)=a at *;constructor
  ·have:=R.aJ a0 (show 0<=1-R.ab C by grind);grind
  ·refine R.cK bLF ?_;have:=R.aJ a0 (show 0<=R.ab C-R.pz (-1075) by grind);grind
 have bQC:=Nm _ tV.1;obtain⟨V,hV⟩:∃V,V=tv fn k (R.sn ρ) (R.cs ρ):=⟨_,rfl⟩;obtain⟨bE,vl,vh,V0,oE⟩:Bx (tE fn k r p) V (200000*z*R.ab V) (mg (p-6))/\R.pz (-1075)<=R.ab V/\R.ab V<=R.pz 1075/\V≠0/\(fn=4\/fn=5->On (tE fn k r p)/\Bx (tE fn k r p) V (16384*z*R.ab V) (mg (p-6))):=by
  rcases hf with rfl |rfl |rfl
  ·have a:V=S:=by rw[hV,hS];rfl
   have b:tE 4 k r p=t.1:=by rw[ht];rfl
   rw[a,b];exact⟨yJ b1 (by have:=R.aJ (cGL z0) (R.aP S);grind),sS.1,by grind,S0,fun _=>⟨aZO.1,b1⟩⟩
  ·have a:V=C:=by rw[hV,hC];rfl
   have b:tE 5 k r p=t.2:=by rw[ht];rfl
   rw[a,b];exact⟨yJ b2 (by have:=R.aJ (cGL z0) (R.aP C);grind),sC.1,by grind,C0,fun _=>⟨aZO.2,b2⟩⟩
  ·have a:V=S/C:=by rw[hV,hS,hC];rfl
   have b:tE 6 k r p=(aR (jV.Nb (p+16) t.1.1 t.1.2 t.2.1 t.2.2).1 (jV.Nb (p+16) t.1.1 t.1.2 t.2.1 t.2.2).2,aR (jV.Nc (p+16) t.1.1 t.1.2 t.2.1 t.2.2).1 (jV.Nc (p+16) t.1.1 t.1.2 t.2.1 t.2.2).2):=by rw[ht];rfl
   rw[a,b];exact⟨yJ bq (by have:=R.aJ (cGL z0) (R.aP (S/C));grind),tV.1,tV.2,bQC,fun h=>by omega⟩
 have nE:=aHN bE (by grind) V0;have bIU:2*R.pz 1075<=R.pz 1100:=by rw[<-R.lO];exact R.cX (by omega)
 obtain⟨bLA,bKZ,bO⟩:=aCB (n:=p+20) bE (by omega) (by grind) (by grind);rw[bKR]at bO;have bX:Bx (tO fn k r p) V (524288*z*R.ab V) (mg (p-6)):=by
  refine yJ bO ?_;have k1:=R.aJ (cGL z0) (show 0<=5/4*R.ab V-R.ab (R.qz (tE fn k r p).1) by grind);have k2:=R.aJ (cGL z0) (show 0<=5/4*R.ab V-R.ab (R.qz (tE fn k r p).2) by grind);have k3:=R.aJ (cGL z0) (R.aP V);grind
 have bY:fn=4\/fn=5->Bx (tO fn k r p) V (32768*z*R.ab V) (mg (p-6)):=by
  intro h;obtain⟨_,_,b⟩:=aCB (n:=p+20) (oE h).2 (by omega) (by grind) (by grind);rw[bKR]at b;refine yJ b ?_;have k1:=R.aJ (cGL z0) (show 0<=5/4*R.ab V-R.ab (R.qz (tE fn k r p).1) by grind);have k2:=R.aJ (cGL z0) (show 0<=5/4*R.ab V-R.ab (R.qz (tE fn k r p).2) by grind);have k3:=R.aJ (cGL z0) (R.aP V);grind
 have g1:=Ba false (tE fn k r p).1 (p+20).toNat;have g2:=Ba true (tE fn k r p).2 (p+20).toNat;rw[show(((p+20).toNat:Nat):Int)=p+20 by omega]at g1 g2;have nX:=aHN bX (by grind) V0;have m1:(tO fn k r p).1.1≠0:=uX (by grind);have m2:(tO fn k r p).2.1≠0:=uX (by grind);have x1:=Lb (up:=false) (p:=(tE fn k r p).1) (n:=p+20) m1;have x2:=Lb (up:=true) (p:=(tE fn k r p).2) (n:=p+20) m2;have bHZ:R.pz (-1076)<=3/4*R.pz (-1075):=by
  have:=R.sE (-1075);rw[show(-1075:Int)-1=-1076 by rfl]at this;grind
 have y1:=Em (p:=(tE fn k r p).1) (E:=-1076) (uX (by grind)) (by grind);have y2:=Em (p:=(tE fn k r p).2) (E:=-1076) (uX (by grind)) (by grind);have aKZ:tv fn k (R.sn (R.qz r*R.pi)) (R.cs (R.qz r*R.pi))=V:=by rw[<-hρ,hV]
 refine⟨ci,bs.Aw,bc.Aw,?_,bE.Aw,bLA,bKZ,?_,?_,?_,?_,?_,?_,?_,?_⟩
 ·rw[<-ht];exact⟨q0,⟨cCA z1.1 (by omega),cCA z2.1 (by omega),cCA z3.1 (by omega),cCA z4.1 (by omega)⟩,q1,q2⟩
 ·rw[aKZ];exact V0
 ·rw[aKZ];exact vl
 ·rw[aKZ];exact vh
 ·rw[aKZ,e1];exact bX
 ·rw[aKZ,e5];exact bY
 ·constructor
  ·show((bl (shD false (tE fn k r p).1 (p+20)).1.natAbs:Nat):Int)<=_;omega
  ·show((bl (shD true (tE fn k r p).2 (p+20)).1.natAbs:Nat):Int)<=_;omega
 ·constructor
  ·show -p-1200<=(shD false (tE fn k r p).1 (p+20)).2;omega
  ·show -p-1200<=(shD true (tE fn k r p).2 (p+20)).2;omega
 ·intro h2;exact⟨Ub (by omega) (oE h2).1.1,Ub (by omega) (oE h2).1.2⟩
theorem aTK{m e:Int}(he:e<0):-p2 (-1-e)<=dU.Yb (m,e)/\dU.Yb (m,e)<p2 (-1-e):=by
 unfold dU.Yb dU.Du
 try dsimp only
 rw[aO,aO];have h1:p2 (-e)=p2 (-1-e)*2:=by
  have:=uH (m:=-1-e) (n:=1) (by omega) (by omega);rwa [show -1-e+1=-e by omega]at this
 have h2:p2 (1-e)=p2 (-1-e)*4:=by
  have:=uH (m:=-1-e) (n:=2) (by omega) (by omega);rwa [show -1-e+2=1-e by omega]at this
 rw[h1,h2];have hp:=Ib (-1-e);generalize p2 (-1-e)=v at *;have a1:=Int.mul_ediv_add_emod (m*4+v*2) (v*4);have a2:=cKI (m*4+v*2) (show v*4≠0 by omega);have a3:=cKJ (m*4+v*2) (show 0<v*4 by omega);generalize (m*4+v*2)/(v*4)=K at *;have e1:v*4*K=K*v*4:=by rw[Int.mul_comm,cHR]
 have e2:K*(v*2)=K*v*2:=by rw[cHR]
 rw[e1]at a1;rw[e2];generalize K*v=t at *;omega
theorem aZB{a:Int×Int}(he:-1074<=a.2/\a.2<=-2)(ho:a.1%2=1):bIT (dU.Ki a):=by
 obtain⟨m,e⟩:=a;dsimp only at he ho;have rr:=aTK (m:=m) (e:=e) (by omega);have hR:dU.Yb (m,e)=m*2-dU.Du (m,e)*p2 (-e):=by
  unfold dU.Yb;dsimp only;rw[aO]
 have hD:dU.Ki (m,e)=aR (dU.Yb (m,e)) (e-1):=rfl;have h4:p2 (-e)=p2 (-2-e)*4:=by
  have:=uH (m:=-2-e) (n:=2) (by omega) (by omega);rwa [show -2-e+2=-e by omega]at this
 rw[h4,<-cHR]at hR;rw[hD];generalize dU.Du (m,e)*p2 (-2-e)=q at hR;generalize dU.Yb (m,e)=z at *;have z0:z≠0:=by omega
 obtain⟨j,hj⟩:=cGG (show 0<=-1-e by omega);have hp:p2 (-1-e)=((2^j:Nat):Int):=by rw[hj,Bd]
 have za:z.natAbs<=2^j:=by omega
 have zb:bl z.natAbs<=j+1:=dK.2 (by rw[cGD];have:=cEE (n:=j) (show 0<2 by decide);omega);have tl:tz z.natAbs<=j:=by
  have:=Jp (n:=z.natAbs) (by omega);rcases Nat.lt_or_ge j (tz z.natAbs)with h |h
  ·have h5:2^(j+1)<=2^tz z.natAbs:=fK;rw[cGD]at h5;have:=cEE (n:=j) (show 0<2 by decide);omega
  ·exact h
 have x1:=(mB (e:=e-1) z0).2;have eq:R.qz (aR z (e-1))=R.qz (z,e-1):=pC _ _;have e1:R.pz (e-1)*((2^j:Nat):Rat)=1/4:=by
  rw[<-R.eN,show e-1+(j:Int)=-2 by omega];have e:=R.gL 0 (n:=2) (c:=4) (by norm_cast);rw[R.gR,show(0:Int)-((2:Nat):Int)=-2 by rfl]at e;grind
 have P:=R.dW (e-1);refine⟨iF (iM (by omega) (by omega)) (by omega),cCA (xG _ _) (by omega),by omega,?_,?_⟩
 ·rw[eq,Tl];have h1:(z.natAbs:Rat)<=((2^j:Nat):Rat):=by exact_mod_cast za
  have:=R.aJ (cGL P) (show 0<=((2^j:Nat):Rat)-(z.natAbs:Rat) by grind);dsimp only;grind
 ·rw[eq,Tl];have h1:(1:Rat)<=(z.natAbs:Rat):=by exact_mod_cast(show 1<=z.natAbs by omega)
  have:=R.aJ (cGL P) (show 0<=(z.natAbs:Rat)-1 by grind);have:=R.cX (show(-1075:Int)<=e-1 by omega);dsimp only;grind
end M
namespace W
open Go AI M
namespace aEC
def E:=mE [(57,aAO.aI)] 8 [] [] []
def aE:=bd f62
theorem aT:Nk E aE:=nk
theorem start a:aF E f62 aE [D.s (sc (int i64 a))]=letI A:=bif iQ a 0 then aR a 0 else((0:Int),(0:Int));letI C:=M6.dg A.fst.natAbs;letI B:=bool (isNeg A.fst);aM (((-9223372036854775808:Int)<=a/\a<9223372036854775808)/\(-9223372036854775808:Int)<=(0:Int)/\(0:Int)<(9223372036854775808:Int)) (aM (((-9223372036854775808:Int)<=a/\a<9223372036854775808)/\(-9223372036854775808:Int)<=(0:Int)/\(0:Int)<(9223372036854775808:Int)) (some [D.agg [sc B,ints u64 C,sc (int i64 A.snd),sc B,ints u64 C,sc (int i64 A.snd)]])):=eJ aT
def sD(p q:Int×Int):D:=.agg [.sc (.bool (isNeg p.1)),.ints .u64 (M6.dg p.1.natAbs),.sc (.int .i64 p.2),.sc (.bool (isNeg q.1)),.ints .u64 (M6.dg q.1.natAbs),.sc (.int .i64 q.2)]
def sp(m:Int):Prop×List D:=(-9223372036854775808<=m/\m<9223372036854775808,[sD (aR m 0) (aR m 0)])
theorem spec:iU E f62 aE (pN .i64) sp:=by
 intro m h;have h:-9223372036854775808<=m/\m<9223372036854775808:=h;refine(start m).trans ?_;have hb:bl m.natAbs<=64:=dK.2 (by omega);rw[gP ⟨h,by omega,by omega⟩,gP ⟨h,by omega,by omega⟩];have e:(bif iQ m 0 then aR m 0 else((0:Int),(0:Int)))=aR m 0:=by rw[iM (by omega) (by omega)];rfl
 rw[e];rfl
def aI:dJ:=orc1 (pN .i64) sp
theorem ok:OK 62 aI:=(eB E aE (aA aAO.ok aC) func62).oS rfl spec
end aEC
namespace Hc
def bBR(fn:Int)(b:Int):Int:=if(bQ.iK 64 b).1=0 then(if fn=5 then 1 else 0)else if(fC.An fn (bQ.iK 64 b)).2.1=true then -(fC.An fn (bQ.iK 64 b)).1 else(fC.An fn (bQ.iK 64 b)).1
end Hc
namespace tW
def E:=mE [(61,wT.aI),(12,aZ.aI),(62,aEC.aI),(63,fC.aI),(18,dU.aI),(64,iW.aI),(66,mR.aI),(65,aRM.aI)] 98 [33] [(3,[0,1,2,6])] [3]
def aE:=bd f19
theorem aT:Nk E aE:=nk
def J3 a b c d e f g:=lP E f19 aE 3 [bN a,dO b,bN c,dS 3 44 [dG d,sc (slice none 0 0),cP e,dG f,sc (slice none 0 0),cP g]]
theorem start a b c:aF E f19 aE [D.s (sc (int i64 a)),D.s (sc (int u64 b)),D.s (sc (int i64 c))]=letI A:=some [D.agg [sc (bool false),sc (slice none 0 0),sc (int i64 0),sc (bool false),sc (slice none 0 0),sc (int i64 0)],D.s (sc (int i64 1))];aM True (aB (!wT.Bl a) A (aB (decide (c<1)) A (aB (decide (66000<c)) A (tW.J3 a b c false 0 false 0)))):=eJ aT
theorem iB a b c d e f g:J3 a b c d e f g=letI F1:=bool false;letI A1:=aR 0 0;letI G1:=M6.dg A1.fst.natAbs;letI Z:=aR 1 0;letI I1:=M6.dg Z.fst.natAbs;letI Y:=slice none 0 0;letI X:=i64.wrap (c+16);letI Q:=int i64 0;letI K:=i64.wrap (c+20);letI G:=bif cE.jD 64 b then dU.Ki (dU.qR b)else((0:Int),(0:Int));letI F:=i64.wrap (c+16)+2;letI C:=bif cD.eZ 64 b&&cE.jD 64 b then aR (aZ.kA 64 b) (aZ.lG 64 b)else((0:Int),(0:Int));aM (((64:Int)=(32:Int)\/(64:Int)=(64:Int))/\0<=b/\b<18446744073709551616) (aD (isNeg C.fst) fun h=>aD (M6.dg C.fst.natAbs) fun i=>aD C.snd fun j=>letI T:=fC.An a (dv (h,i,j));aD (bif cD.eZ 64 b then bif cE.jD 64 b then(0:Int)else(6:Int)else(2:Int)) fun k=>aB (k !=0) (some [D.agg [sc F1,sc Y,sc Q,sc F1,sc Y,sc Q],D.s (sc (int i64 k))]) (aB ((i.length:Int)==(0:Int)) (aB (a==5) (aM ((-9223372036854775808:Int)<=(1:Int)/\(1:Int)<(9223372036854775808:Int)) (aD (isNeg Z.fst) fun l=>aD I1 fun m=>aD Z.snd fun n=>aD (isNeg Z.fst) fun o=>aD I1 fun p=>aD Z.snd fun q=>some [D.agg [sc (bool l),ints u64 m,sc (int i64 n),sc (bool o),ints u64 p,sc (int i64 q)],D.s (sc Q)])) (aM ((-9223372036854775808:Int)<=(0:Int)/\(0:Int)<(9223372036854775808:Int)) (aD (isNeg A1.fst) fun r=>aD G1 fun s=>aD A1.snd fun t=>aD (isNeg A1.fst) fun u=>aD G1 fun v=>aD A1.snd fun w=>some [D.agg [sc (bool r),ints u64 s,sc (int i64 t),sc (bool u),ints u64 v,sc (int i64 w)],D.s (sc Q)]))) (aM (aU (h,i,j)) (aD T.fst fun x=>letI B1:=aR x 0;letI H1:=M6.dg B1.fst.natAbs;letI H:=aR (i64.wrap ((0:Int)-x)) 0;letI K1:=M6.dg H.fst.natAbs;aD T.snd.fst fun y=>aD T.snd.snd fun z=>aB z (aB (x==2) (some [D.agg [sc F1,sc Y,sc Q,sc F1,sc Y,sc Q],D.s (sc (int i64 6))]) (aB y (aM ((-9223372036854775808:Int)<=i64.wrap ((0:Int)-x)/\i64.wrap ((0:Int)-x)<9223372036854775808) (aD (isNeg H.fst) fun aa=>aD K1 fun ab=>aD H.snd fun ac=>aD (isNeg H.fst) fun ad=>aD K1 fun ae=>aD H.snd fun af=>some [D.agg [sc (bool aa),ints u64 ab,sc (int i64 ac),sc (bool ad),ints u64 ae,sc (int i64 af)],D.s (sc Q)])) (aM ((-9223372036854775808:Int)<=x/\x<9223372036854775808) (aD (isNeg B1.fst) fun ag=>aD H1 fun ah=>aD B1.snd fun ai=>aD (isNeg B1.fst) fun aj=>aD H1 fun ak=>aD B1.snd fun al=>some [D.agg [sc (bool ag),ints u64 ah,sc (int i64 ai),sc (bool aj),ints u64 ak,sc (int i64 al)],D.s (sc Q)])))) (aM (0<=b/\b<18446744073709551616) (aD (bif cE.jD 64 b then dU.Du (dU.qR b)%4 else(0:Int)) fun am=>aD (isNeg G.fst) fun an=>aD (M6.dg G.fst.natAbs) fun ao=>aD G.snd fun ap=>letI A:=iW.Fa (dv (an,ao,ap)) X;letI P:=gC A.fst A.snd F;letI O:=gS A.fst A.snd F;aM (aU (an,ao,ap)/\(1<=i64.wrap (c+16)/\i64.wrap (c+16)<=66500)/\iW.aWB (dv (an,ao,ap)) X) (aD (isNeg O.fst.fst) fun aq=>aD (M6.dg O.fst.fst.natAbs) fun ar=>aD O.fst.snd fun au=>aD (isNeg O.snd.fst) fun av=>aD (M6.dg O.snd.fst.natAbs) fun aw=>aD O.snd.snd fun ax=>letI C1:=(aq,ar,au,av,aw,ax);aD (isNeg P.fst.fst) fun ay=>aD (M6.dg P.fst.fst.natAbs) fun az=>aD P.fst.snd fun ba=>aD (isNeg P.snd.fst) fun bb=>aD (M6.dg P.snd.fst.natAbs) fun bc=>aD P.snd.snd fun be=>letI D1:=(ay,az,ba,bb,bc,be);letI N:=VTurned.trn (mR.eS C1) (mR.eS D1) am.toNat;letI B:=mR.aWS a am.toNat (mR.eS C1) (mR.eS D1) X;aM ((fA C1/\fA D1)/\(0<=am/\am<=3)/\(1<=i64.wrap (c+16)/\i64.wrap (c+16)<=70000)/\(a≠4->a≠5->mR.aTQ X N.fst N.snd)) (aD (isNeg B.fst.fst) fun bf=>aD (M6.dg B.fst.fst.natAbs) fun bg=>aD B.fst.snd fun bh=>aD (isNeg B.snd.fst) fun bi=>aD (M6.dg B.snd.fst.natAbs) fun bj=>aD B.snd.snd fun bk=>letI I:=(bf,bg,bh,bi,bj,bk);letI W:=M.shD true (dv (iS I)) K;letI U:=M.shD false (dv (iR I)) K;aM (fA I/\(1<=i64.wrap (c+20)/\i64.wrap (c+20)<=70000)/\yR false (dv (iR I)) K=true/\yR true (dv (iS I)) K=true) (aD (isNeg U.fst) fun bm=>aD (M6.dg U.fst.natAbs) fun bn=>aD U.snd fun bo=>aD (isNeg W.fst) fun bp=>aD (M6.dg W.fst.natAbs) fun bq=>aD W.snd fun br=>some [D.agg [sc (bool bm),ints u64 bn,sc (int i64 bo),sc (bool bp),ints u64 bq,sc (int i64 br)],D.s (sc Q)]))))))))):=cJ aT
def bBL(fn b:Int):Bool:=(bQ.iK 64 b).1==0||(fC.An fn (bQ.iK 64 b)).2.2
def aXC(fn b:Int):Bool:=(bQ.iK 64 b).1 !=0&&(fC.An fn (bQ.iK 64 b)).2.2&&(fC.An fn (bQ.iK 64 b)).1==2
def aWT(fn b p:Int):(Int×Int)×(Int×Int):=bif bBL fn b then(bif aXC fn b then((0,0),(0,0))else(aR (Hc.bBR fn b) 0,aR (Hc.bBR fn b) 0))else tO fn (dU.Du (dU.qR b)) (dU.Ki (dU.qR b)) p
def sp(fn b p:Int):Prop×List D:=((0<=b/\b<18446744073709551616)/\(fn=4\/fn=5\/fn=6)/\(1<=p/\p<=66000)/\cE.jD 64 b=true,[wZ (aWT fn b p).1 (aWT fn b p).2,.s (.sc (.int .i64 (bif aXC fn b then 6 else 0)))])
theorem fold(a b:Int×Int):(isNeg a.1,M6.dg a.1.natAbs,a.2,isNeg b.1,M6.dg b.1.natAbs,b.2)=nV a b:=rfl
theorem aNR{fn b:Int}(h:0<=b)(hf:cE.jD 64 b=true)(h4:fn=4\/fn=5\/fn=6)(hx:bBL fn b=false):bIT (dU.Ki (dU.qR b)):=by
 obtain⟨hp,hm,e0,e1⟩:=dU.aCD h hf;unfold bBL at hx;rw[show bQ.iK 64 b=dU.qR b from rfl]at hx;generalize dU.qR b=q at *;have z0:q.1≠0:=fun hz=>by rw[hz]at hx;exact Bool.noConfusion hx
 have hv:(fC.An fn q).2.2=false:=by
  cases hc:(fC.An fn q).2.2 with
  |false=>rfl
  |true=>rw[hc,Bool.or_true]at hx;exact Bool.noConfusion hx
 have he:q.2<=-2:=by
  rcases Int.lt_or_le (-2) q.2 with kM |hle
  ·exfalso;unfold fC.An at hv
   by_cases c0:0<=q.2
   ·rcases h4 with rfl |rfl |rfl <;> simp[c0]at hv
   ·have c1:q.2=-1:=by omega
    rcases h4 with rfl |rfl |rfl <;> simp[c1]at hv
  ·exact hle
 exact aZB ⟨e0,he⟩ (hp.2.2.2 z0)
theorem spec:bCK E f19 aE (pN .i64) (pN .u64) (pN .i64) sp:=by
 rintro fn b p ⟨h,h4,⟨Ao,xA⟩,hf⟩;have hp:cD.eZ 64 b=true:=rfl;have hk:wT.Bl fn=true:=by rcases h4 with rfl |rfl |rfl <;> rfl
 have e1:(bif cD.eZ 64 b&&cE.jD 64 b then aR (aZ.kA 64 b) (aZ.lG 64 b)else((0:Int),(0:Int)))=bQ.iK 64 b:=by rw[hp,hf];rfl
 have e2:(bif cD.eZ 64 b then bif cE.jD 64 b then(0:Int)else 6 else 2)=0:=by rw[hp,hf];rfl
 have s:=(start fn b p).trans (gP trivial);rw[hk,Bool.not_true,bF,aL,aL,iB,gP ⟨.inr rfl,h⟩,e1,e2,Dy,vl,gD rfl]at s;have aIV:=(bQ.Nj (.inr rfl) h.1 hf).1;have hn:bBL fn b=false->bIT (dU.Ki (dU.qR b)):=aNR h.1 hf h4;have bGH:bQ.iK 64 b=dU.qR b:=rfl;unfold sp aWT;dsimp only;unfold bBL aXC Hc.bBR at *;generalize bQ.iK 64 b=q at *;have hl:(M6.dg q.1.natAbs).length=0↔q.1=0:=by rw[M6.gM];omega
 by_cases hz:q.1=0
 ·refine⟨_,s.trans ?_,iZ.refl _⟩;rw[bI (by have:=hl.2 hz;omega),if_pos hz,hz]
  by_cases h5:fn=5
  ·rw[bI h5,if_pos h5,gP];rfl
  ·rw[bA h5,if_neg h5,gP];rfl
 ·rw[bA (fun h=>hz (hl.1 (by omega))),gP (dV aIV),dY,vl,vl,vl]at s;rw[show(q.1==0)=false from beq_eq_false_iff_ne.2 hz,show(q.1 !=0)=true by simp[hz],cDF,cEG,if_neg hz];have hn:=fun hx=>hn (by rw[show(q.1==0)=false from beq_eq_false_iff_ne.2 hz,cDF];exact hx)
  have hs:=bQ.aGZ fn q;cases hv:(fC.An fn q).2.2 with
  |true =>
   rw[hv,bT]at s;rw[cond_true,cEG]
   by_cases c2:(fC.An fn q).1=2
   ·rw[bI c2]at s;rw[c2];refine⟨_,s,.cons ?_ (iZ.refl _)⟩;show Ap _ (wZ (0,0) (0,0));unfold wZ;dsimp only;rw[show(0:Int).natAbs=0 from rfl,M6.cB];exact Ap.agg (.cons (Fe.refl _) (.cons (Fe.nil _) (.cons (Fe.refl _) (.cons (Fe.refl _) (.cons (Fe.nil _) (zZ.refl _))))))
   ·rw[bA c2]at s;rw[show((fC.An fn q).1==2)=false from beq_eq_false_iff_ne.2 c2];refine⟨_,s.trans ?_,iZ.refl _⟩;cases hg:(fC.An fn q).2.1 with
    |false=>rw[bF,if_neg (by simp),gP];rfl
    |true=>rw[bT,if_pos rfl,wrap_i64 (n:=0-(fC.An fn q).1),Int.zero_sub,gP];rfl
  |false =>
   have hr:=hn hv;rw[hv,bF,gP h,hf]at s;rw[cond_false,cGN];dsimp only[cond_true]at s;have N:=aLY (k:=dU.Du (dU.qR b)) hr ⟨Ao,xA⟩ h4;have w1:i64.wrap (p+16)=p+16:=wrap_i64;have w2:i64.wrap (p+20)=p+20:=wrap_i64;have bPT:p+16+2=p+18:=by omega
   have N2:=N.bx.Aw;generalize dU.Du (dU.qR b)=k at *;generalize dU.Ki (dU.qR b)=r at *;rw[vl,Dy,w1,dY,bPT]at s;have s:=s.trans (gP ⟨dV hr.xF,⟨by omega,by omega⟩,N.ci⟩);rw[show gS (iW.Fa r (p+16)).1 (iW.Fa r (p+16)).2 (p+18)=tS r p from rfl,show gC (iW.Fa r (p+16)).1 (iW.Fa r (p+16)).2 (p+18)=tC r p from rfl]at s;have eS:mR.eS (nV (tS r p).1 (tS r p).2)=tS r p:=by
    show(dv (iR (nV _ _)),dv (iS (nV _ _)))=_;rw[qE,qF]
   have eC:mR.eS (nV (tC r p).1 (tC r p).2)=tC r p:=by
    show(dv (iR (nV _ _)),dv (iS (nV _ _)))=_;rw[qE,qF]
   rw[aG,aG,aG,aG,aG,aG,aG,aG,aG,aG,aG,aG,fold,fold,eS,eC]at s;have s:=s.trans (gP ⟨⟨N.sS,N.sC⟩,⟨cKI _ (by decide),by omega⟩,⟨by omega,by omega⟩,fun _ _=>N.qu⟩);rw[show mR.aWS fn (k%4).toNat (tS r p) (tC r p) (p+16)=tE fn k r p from rfl,aG,aG,aG,aG,aG,aG,fold,w2,qE,qF]at s;have s:=s.trans (gP ⟨N.re,⟨by omega,by omega⟩,N.s1,N.s2⟩);exact⟨_,s,iZ.refl _⟩
def aI:dJ:=orc3 (pN .i64) (pN .u64) (pN .i64) sp
theorem ok:OK 19 aI:=(eB E aE (aA wT.ok (aA aZ.ok (aA aEC.ok (aA fC.ok (aA dU.ok (aA iW.ok (aA mR.ok (aA aRM.ok aC)))))))) func19).bKX rfl spec
end tW
end W
namespace M
open Go AI W
structure bTY(s:(Int×Int)×(Int×Int))(V:Rat)(p:Int):Prop where
 f1:bTX s.1 66021 (-p-1200) 1
 f2:bTX s.2 66021 (-p-1200) 1
 lo:R.qz s.1<=V
 hi:V<=R.qz s.2
theorem bTY.sp{s:(Int×Int)×(Int×Int)}{V:Rat}{p:Int}(h:bTY s V p):fA (nV s.1 s.2):=by
 have:=h.lo;have:=h.hi;exact yW h.f1.xF h.f2.xF (mI.2 (by grind))
end M
namespace M
open Go AI W
def vT(fn b:Int):Rat:=tv fn (dU.Du (dU.qR b)) (R.sn (R.qz (dU.Ki (dU.qR b))*R.pi)) (R.cs (R.qz (dU.Ki (dU.qR b))*R.pi))
end M
namespace AI
open Go Go.RowKit
structure aKE(α:Type) where
 put:α->Value
 get:Value->Option α
 eq:∀{v x},get v=some x->v=put x
def vN(k:IntKind):aKE Int where
 put n:=.int k n
 get
  | .int k' n=>if _h:k=k' then some n else none
  |_=>none
 eq:=by
  intro v x h;split at h
  ·split at h
   ·rename_i hk;subst hk;cases h;rfl
   ·cases h
  ·cases h
def vF:aKE Nat where
 put g:=.func (.func g) #[] #[]
 get
  | .func (.func g) ⟨[]⟩ ⟨[]⟩=>some g
  |_=>none
 eq:=by
  intro v x h;split at h
  ·cases h;rfl
  ·cases h
def vC(id:FuncId):aKE Unit where
 put _:=.func (.func id) #[] #[]
 get
  | .func (.func g) ⟨[]⟩ ⟨[]⟩=>if g=id then some ()else none
  |_=>none
 eq:=by
  intro v x h;split at h
  ·split at h
   ·rename_i hg;subst hg;rfl
   ·cases h
  ·cases h
structure aRS(α:Type) where
 put:α->List Value
 get:List Value->Option α
 eq:∀{v x},get v=some x->v=put x
def l1{α:Type}(p:aKE α):aRS α where
 put a:=[p.put a]
 get
  | [v]=>p.get v
  |_=>none
 eq:=by
  intro v x h;split at h
  ·rw[p.eq h]
  ·cases h
def lc{α β:Type}(p:aKE α)(q:aRS β):aRS (α×β) where
 put a:=p.put a.1 :: q.put a.2
 get
  |v :: r=>match p.get v,q.get r with
   |some a,some b=>some (a,b)
   |_,_=>none
  |_=>none
 eq:=by
  intro v x h;split at h
  ·split at h
   ·rename_i h1 h2;cases h;rw[p.eq h1,q.eq h2]
   ·cases h
  ·cases h
def pPt{α:Type}(p:aKE α):mJ α where
 put a:=.s (.pt (p.put a))
 get
  | .s (.pt v)=>p.get v
  |_=>none
 le:=by
  intro d x h;split at h
  ·rw[p.eq h];exact El.refl _
  ·cases h
def pClo{α:Type}(k:FuncId)(p:aRS α):mJ α where
 put a:=.s (.Vu k (p.put a))
 get
  | .s (.Vu k' xs)=>if k=k' then p.get xs else none
  |_=>none
 le:=by
  intro d x h;split at h
  ·split at h
   ·rename_i hk;subst hk;rw[p.eq h];exact El.refl _
   ·cases h
  ·cases h
def bES{α:Type}(k:FuncId)(p:aRS α):SPar α:=bJD (pClo k p) (fun a=>.Vu k (p.put a)) fun _=>rfl
theorem aTW{P:Program}{G:Nat->Option (IntKind×List Int)}{f:FuncId}{α β γ δ:Type}{p:mJ α}{q:mJ β}{r:mJ γ}{s:mJ δ}{sp:α->β->γ->δ->Prop×List D}(hb:rB P f)
  (h:∀a b c d,(sp a b c d).1->Contract P G f [p.put a,q.put b,r.put c,s.put d] (sp a b c d).2):mN P G f (orc4 p q r s sp):=by
 intro ds g rs ho hg;unfold orc4 at ho;split at ho
 ·split at ho
  ·rename_i h1 h2 h3 h4;have e:=Option.some.inj ho;have c:=(h _ _ _ _ (by rw[e];exact hg)).bQT (p.le h1) (q.le h2) (r.le h3) (s.le h4);rw[e]at c;exact⟨c,hb⟩
  ·cases ho
 ·cases ho
end AI
namespace W
open Go AI M
namespace fB
def E:=mE [(31,dC.aI)] 22 [] [(4,[0,4,6,7])] [4]
def aE:=bd f73
theorem aT:Nk E aE:=nk
def J4 a b c d:=lP E f73 aE 4 [bN a,dS 1 42 [cP b],dS 2 129 [cP c,sc Value.nilFunc],dS 3 22 [rN d]]
theorem start a b c:aF E f73 aE [D.s (sc (int i64 a)),D.s (sc (int i64 b)),D.s (sc (int u64 c))]=aB (a==32) (aM (0<=c/\c<18446744073709551616) (fB.J4 a b 0 (dC.vG c))) (fB.J4 a b 0 c):=eJ aT
theorem Ek a b c d:J4 a b c d=aB (decide (4<=b)) (some [D.agg [sc (int i64 a),S.Vu 126 [Value.func (Fn.func 19) { toList:=[] } { toList:=[] },int i64 b,int u64 d]]]) (some [D.agg [sc (int i64 a),S.Vu 126 [Value.func (Fn.func 125) { toList:=[] } { toList:=[] },int i64 b,int u64 d]]]):=cJ aT
def xV(f b:Int):Int:=if f=32 then dC.vG b else b
def gV(fn:Int):Nat:=if 4<=fn then 19 else 125
def sp(f fn b:Int):Prop×List D:=(0<=b/\b<18446744073709551616,[.agg [.sc (.int .i64 f),.Vu 126 [.func (.func (gV fn)) #[] #[],.int .i64 fn,.int .u64 (xV f b)]]])
theorem spec:oO E f73 aE (pN .i64) (pN .i64) (pN .u64) sp:=by
 intro f fn b h;have hb:0<=b/\b<18446744073709551616:=h;have j:∀x1:Int,J4 f fn 0 x1=some [.agg [.sc (.int .i64 f),.Vu 126 [.func (.func (gV fn)) #[] #[],.int .i64 fn,.int .u64 x1]]]:=by
  intro x1;rw[Ek];unfold gV
  by_cases h4:4<=fn
  ·rw[aN h4,if_pos h4]
  ·rw[aL h4,if_neg h4]
 refine(start f fn b).trans ?_;unfold sp xV;dsimp only
 by_cases h1:f=32
 ·rw[bI h1,if_pos h1,gP hb,j]
 ·rw[bA h1,if_neg h1,j]
def aI:dJ:=orc3 (pN .i64) (pN .i64) (pN .u64) sp
theorem ok:OK 73 aI:=(eB E aE (aA dC.ok aC) func73).xX rfl spec
end fB
namespace Dp
def E:=mE [(125,lK.aI)] 14 [11] [] []
def aE:=bd f126
theorem aT:Nk E aE:=nk
theorem start p fn x:aF E f126 aE [D.s (sc (int i64 p)),D.s (S.pt (Value.func (Fn.func (125:FuncId)) #[] #[])),D.s (S.pt (int i64 fn)),D.s (S.pt (int u64 x))]=letI A:=lK.aVP fn x p;aM (0<=x/\x<18446744073709551616) (aD (isNeg A.fst.fst) fun a=>aD (M6.dg A.fst.fst.natAbs) fun b=>aD A.fst.snd fun c=>aD (isNeg A.snd.fst) fun d=>aD (M6.dg A.snd.fst.natAbs) fun e=>aD A.snd.snd fun f=>some [D.agg [sc (bool a),ints u64 b,sc (int i64 c),sc (bool d),ints u64 e,sc (int i64 f)],D.s (sc (int i64 (fN.Xb fn x p)))]):=eJ aT
def sp(p:Int)(_:Unit)(fn x:Int):Prop×List D:=(0<=x/\x<18446744073709551616,[wZ (lK.aVP fn x p).1 (lK.aVP fn x p).2,.s (.sc (.int .i64 (fN.Xb fn x p)))])
theorem spec:Rr E f126 aE (pN .i64) (pPt (vC 125)) (pPt (vN .i64)) (pPt (vN .u64)) sp:=fun p u fn x h =>
 (start p fn x).trans (gP h)
def aI:dJ:=orc4 (pN .i64) (pPt (vC 125)) (pPt (vN .i64)) (pPt (vN .u64)) sp
theorem ok:OK 126 aI:=(eB E aE (aA lK.ok aC) func126).aSJ rfl spec
end Dp
namespace Dn
def E:=mE [(19,tW.aI)] 14 [11] [] []
def aE:=bd f126
theorem aT:Nk E aE:=nk
theorem start p fn x:aF E f126 aE [D.s (sc (int i64 p)),D.s (S.pt (Value.func (Fn.func (19:FuncId)) #[] #[])),D.s (S.pt (int i64 fn)),D.s (S.pt (int u64 x))]=letI A:=tW.aWT fn x p;aM ((0<=x/\x<18446744073709551616)/\(fn=4\/fn=5\/fn=6)/\(1<=p/\p<=66000)/\cE.jD 64 x=true) (aD (isNeg A.fst.fst) fun a=>aD (M6.dg A.fst.fst.natAbs) fun b=>aD A.fst.snd fun c=>aD (isNeg A.snd.fst) fun d=>aD (M6.dg A.snd.fst.natAbs) fun e=>aD A.snd.snd fun f=>aD (bif tW.aXC fn x then(6:Int)else(0:Int)) fun g=>some [D.agg [sc (bool a),ints u64 b,sc (int i64 c),sc (bool d),ints u64 e,sc (int i64 f)],D.s (sc (int i64 g))]):=eJ aT
def sp(p:Int)(_:Unit)(fn x:Int):Prop×List D:=((0<=x/\x<18446744073709551616)/\(fn=4\/fn=5\/fn=6)/\(1<=p/\p<=66000)/\cE.jD 64 x=true,[wZ (tW.aWT fn x p).1 (tW.aWT fn x p).2,.s (.sc (.int .i64 (bif tW.aXC fn x then 6 else 0)))])
theorem spec:Rr E f126 aE (pN .i64) (pPt (vC 19)) (pPt (vN .i64)) (pPt (vN .u64)) sp:=fun p u fn x h =>
 (start p fn x).trans (gP h)
def aI:dJ:=orc4 (pN .i64) (pPt (vC 19)) (pPt (vN .i64)) (pPt (vN .u64)) sp
theorem ok:OK 126 aI:=(eB E aE (aA tW.ok aC) func126).aSJ rfl spec
end Dn
namespace kQ
def enc(g:Nat)(fn x p:Int):(Int×Int)×(Int×Int):=if g=125 then lK.aVP fn x p else tW.aWT fn x p
def pre(g:Nat)(fn x p:Int):Prop:=(g=125/\(0<=x/\x<18446744073709551616)/\fN.Xb fn x p=0)\/(g=19/\((0<=x/\x<18446744073709551616)/\(fn=4\/fn=5\/fn=6)/\(1<=p/\p<=66000)/\cE.jD 64 x=true)/\tW.aXC fn x=false)
def sp(p:Int)(g:Nat)(fn x:Int):Prop×List D:=(pre g fn x p,[wZ (enc g fn x p).1 (enc g fn x p).2,.s (.sc (.int .i64 0))])
def aI:dJ:=orc4 (pN .i64) (pPt vF) (pPt (vN .i64)) (pPt (vN .u64)) sp
theorem ok:OK 126 aI:=aTW (sR func126 rfl rfl) fun p g fn x h=>by
 rcases h with ⟨rfl,h,h0⟩ |⟨rfl,h,h0⟩
 ·have c:=(Dp.ok _ _ _ (show Dp.aI [(pN .i64).put p,(pPt (vC 125)).put (),(pPt (vN .i64)).put fn,(pPt (vN .u64)).put x]=some (Dp.sp p () fn x)from rfl) h).1;have e:(Dp.sp p () fn x).2=(sp p 125 fn x).2:=by unfold Dp.sp sp enc;rw[h0];rfl
  rw[<-e];exact c
 ·have c:=(Dn.ok _ _ _ (show Dn.aI [(pN .i64).put p,(pPt (vC 19)).put (),(pPt (vN .i64)).put fn,(pPt (vN .u64)).put x]=some (Dn.sp p () fn x)from rfl) h).1;have e:(Dn.sp p () fn x).2=(sp p 19 fn x).2:=by unfold Dn.sp sp enc;rw[h0];rfl
  rw[<-e];exact c
end kQ
namespace lW
def E:=mE [(84,lM.aI),(39,bQ.aI),(82,iD.aI)] 56 [26,37,51] [] []
def aE:=bd f72
theorem aT:Nk E aE:=nk
theorem start a b c d:aF E f72 aE [D.s (sc (int i64 a)),D.s (sc (int i64 b)),D.s (sc (int u64 c)),D.s (sc (int i64 d))]=letI F:=bQ.sU a b c;letI C:=aH.fD a;letI B:=sc (bool true);letI A:=aM True (some [D.s (sc (int u64 C.snd.snd.snd)),D.s B]);aB (d==4) A (aB (d==3) A (aB (decide (4<=b)) (aM (0<=c/\c<18446744073709551616) (some [D.s (sc (int u64 F.fst)),D.s (sc (bool F.snd.fst))])) (aB (d !=0) (some [D.s (sc (int u64 0)),D.s (sc (bool false))]) (aB (b==2) (aM ((a=32\/a=64)/\((0:Int)<=(1:Int)/\(1:Int)<(18446744073709551616:Int))/\(-4000:Int)<=(0:Int)/\(0:Int)<=(2900:Int)) (some [D.s (sc (int u64 (iD.Qq C false (iD.uY C 1 0)))),D.s B])) (some [D.s (sc (int u64 c)),D.s B]))))):=eJ aT
def Mp(f fn b c:Int):Int×Bool:=if c=4 then((aH.fD f).2.2.2,true)else if c=3 then((aH.fD f).2.2.2,true)else if 4<=fn then((bQ.sU f fn b).1,(bQ.sU f fn b).2.1)else if c=0 then(if fn=2 then(iD.Qq (aH.fD f) false (iD.uY (aH.fD f) 1 0),true)else(b,true))else(0,false)
def sp(f fn b c:Int):Prop×List D:=((f=32\/f=64)/\0<=b/\b<18446744073709551616,[.s (.sc (.int .u64 (Mp f fn b c).1)),.s (.sc (.bool (Mp f fn b c).2))])
theorem spec:Rr E f72 aE (pN .i64) (pN .i64) (pN .u64) (pN .i64) sp:=by
 rintro f fn b c ⟨hf,hb⟩;refine(start f fn b c).trans ?_;unfold sp Mp;dsimp only
 by_cases h4:c=4
 ·rw[bI h4,if_pos h4,gP trivial]
 rw[bA h4,if_neg h4]
 by_cases h3:c=3
 ·rw[bI h3,if_pos h3,gP trivial]
 rw[bA h3,if_neg h3]
 by_cases h5:4<=fn
 ·rw[aN h5,if_pos h5,gP hb]
 rw[aL h5,if_neg h5]
 by_cases h0:c=0
 ·rw[gD h0,if_pos h0]
  by_cases h2:fn=2
  ·rw[bI h2,if_pos h2,gP ⟨hf,by omega,by omega,by omega⟩]
  ·rw[bA h2,if_neg h2]
 ·rw[nW h0,if_neg h0]
def aI:dJ:=orc4 (pN .i64) (pN .i64) (pN .u64) (pN .i64) sp
theorem ok:OK 72 aI:=(eB E aE (aA lM.ok (aA bQ.ok (aA iD.ok aC))) func72).aSJ rfl spec
end lW
namespace pO
def E:=mE [(78,aH.aI),(135,cA.aI)] 36 [] [(6,[1,4,8])] [6]
def aE:=bd f77
theorem aT:Nk E aE:=nk
def J6 a b c d e f g h i:=lP E f77 aE 6 [dO a,dS 1 84 [cP b,cP c,cP d,rN e],dS 2 84 [cP f,cP g,cP h,rN i]]
theorem start a b:aF E f77 aE [D.s (sc (int i64 a)),D.s (sc (int u64 b))]=letI A:=aH.fD a;letI G:=int i64 A.snd.fst;letI F:=int u64 A.snd.snd.snd;letI C:=int i64 A.snd.snd.fst;letI B:=pO.J6 b 0 0 0 0 A.fst A.snd.fst A.snd.snd.fst A.snd.snd.snd;aM True (aB (A.fst==0&&(A.snd.fst==0&&(A.snd.snd.fst==0&&(A.snd.snd.snd==0&&true)))) (some [D.agg [sc (int i64 A.fst),sc G,sc C,sc F],D.s (sc (bool false)),D.s (sc (int u64 0)),D.s (sc (int i64 1))]) (aB (decide (A.fst<64)) (if A.fst<0 then none else aB (b/(↑((2:Nat)^min A.fst.toNat 64):Int) !=(0:Int)) (some [D.agg [sc (int i64 A.fst),sc G,sc C,sc F],D.s (sc (bool false)),D.s (sc (int u64 0)),D.s (sc (int i64 2))]) B) B)):=eJ aT
def Ra(f b:Int):Int:=bif lM.Am f then(bif cD.eZ f b then 0 else 2)else 1
def aZM(f b:Int):Bool:=lM.Am f&&cD.eZ f b
def sp(f b:Int):Prop×List D:=(0<=b/\b<18446744073709551616,[aH.bJC (aH.fD f),.s (.sc (.bool (aZM f b&&decide (cA.cF (aH.fD f)<=b)))),.s (.sc (.int .u64 (bif aZM f b then b%cA.cF (aH.fD f)else 0))),.s (.sc (.int .i64 (Ra f b)))])
theorem spec:fL E f77 aE (pN .i64) (pN .u64) sp:=by
 intro f b h;unfold sp aZM Ra
 by_cases hf:f=32\/f=64
 ·rw[show lM.Am f=true from decide_eq_true hf,cEG,cond_true];exact cD.spec f b ⟨hf,h⟩
 ·rw[show lM.Am f=false from decide_eq_false hf,cGN,cond_false];refine(start f b).trans ((gP trivial).trans ?_);have e:aH.fD f=(0,0,0,0):=by unfold aH.fD;rw[if_neg (fun h=>hf (.inl h)),if_neg (fun h=>hf (.inr h))]
  rw[e];rfl
def aI:dJ:=orc2 (pN .i64) (pN .u64) sp
theorem ok:OK 77 aI:=(eB E aE (aA aH.ok (aA cA.ok aC)) func77).lF rfl spec
end pO
namespace jW
def E:=mE [(77,pO.aI),(79,fF.aI)] 24 [13,23] [] []
def aE:=bd f83
theorem aT:Nk E aE:=nk
theorem start a b:aF E f83 aE [D.s (sc (int i64 a)),D.s (sc (int u64 b))]=letI A:=aH.fD a;letI B:=(A.fst,A.snd.fst,A.snd.snd.fst,A.snd.snd.snd);aM (0<=b/\b<18446744073709551616) (aB (pO.Ra a b !=0) (some [D.s (sc (int i64 0)),D.s (sc (int i64 (pO.Ra a b)))]) (aM (aH.vB B) (some [D.s (sc (int i64 (fF.fW B (bif pO.aZM a b then b%cA.cF A else(0:Int))))),D.s (sc (int i64 0))]))):=eJ aT
def xT(f b:Int):Int:=bif pO.aZM f b then fF.fW (aH.fD f) (b%cA.cF (aH.fD f))else 0
def sp(f b:Int):Prop×List D:=(0<=b/\b<18446744073709551616,[.s (.sc (.int .i64 (xT f b))),.s (.sc (.int .i64 (pO.Ra f b)))])
theorem spec:fL E f83 aE (pN .i64) (pN .u64) sp:=by
 intro f b h;refine(start f b).trans ((gP h).trans ?_);unfold sp xT pO.Ra pO.aZM
 by_cases hf:f=32\/f=64
 ·rw[show lM.Am f=true from decide_eq_true hf,cEG,cond_true];have ht:=cE.Fq hf;cases hp:cD.eZ f b with
  |false=>rfl
  |true =>
   try dsimp only[cond_true]
   rw[gD rfl,gP ht]
 ·rw[show lM.Am f=false from decide_eq_false hf];rfl
def aI:dJ:=orc2 (pN .i64) (pN .u64) sp
theorem ok:OK 83 aI:=(eB E aE (aA pO.ok (aA fF.ok aC)) func83).lF rfl spec
end jW
namespace gA
def E:=mE [(83,jW.aI)] 24 [13] [] []
def aE:=bd f71
theorem aT:Nk E aE:=nk
theorem start a b c:aF E f71 aE [D.s (sc (int i64 a)),D.s (sc (int i64 b)),D.s (sc (int u64 c))]=letI B:=sc (int i64 (jW.xT a c));letI A:=some [D.s B,D.s (sc (int i64 1))];aM (0<=c/\c<18446744073709551616) (aB (decide (b<1)) A (aB (decide (6<b)) A (some [D.s B,D.s (sc (int i64 (pO.Ra a c)))]))):=eJ aT
def qB(f fn b:Int):Int:=if fn<1 then 1 else if 6<fn then 1 else pO.Ra f b
def sp(f fn b:Int):Prop×List D:=(0<=b/\b<18446744073709551616,[.s (.sc (.int .i64 (jW.xT f b))),.s (.sc (.int .i64 (qB f fn b)))])
theorem spec:oO E f71 aE (pN .i64) (pN .i64) (pN .u64) sp:=by
 intro f fn b h;refine(start f fn b).trans ((gP h).trans ?_);unfold sp qB;dsimp only
 by_cases h1:fn<1
 ·rw[aN h1,if_pos h1]
 ·rw[aL h1,if_neg h1]
  by_cases h2:6<fn
  ·rw[aN h2,if_pos h2]
  ·rw[aL h2,if_neg h2]
def aI:dJ:=orc3 (pN .i64) (pN .i64) (pN .u64) sp
theorem ok:OK 71 aI:=(eB E aE (aA jW.ok aC) func71).xX rfl spec
end gA
end W
namespace W.Ziv
open Go AI M W W.aAS
structure Ns(f fn b:Int):Prop where
 fin:Fin f b
 f1:1<=fn
 f6:fn<=6
 ex:4<=fn->(fC.An fn (bQ.iK f b)).2.2=false
theorem Vt{f b:Int}(hf:f=32\/f=64)(hb:0<=b/\b<18446744073709551616)(hp:cD.eZ f b=true):b<2*sg f/\jW.xT f b=(if b%sg f=0 then 0 else if b%sg f<cO.lC (aH.fD f)then 1 else if b%sg f<kJ.oD (Ch.Eb f)then 2 else if b%sg f=kJ.oD (Ch.Eb f)then 3 else 4):=by
 obtain⟨e1,e2⟩:=Mv hf;constructor
 ·unfold cD.eZ at hp;rcases hf with rfl |rfl
  ·rw[Bool.or_eq_true,decide_eq_true_eq,decide_eq_true_eq]at hp;have:sg 32=2147483648:=rfl;omega
  ·have:sg 64=9223372036854775808:=rfl;omega
 ·unfold jW.xT pO.aZM;rw[show lM.Am f=true from decide_eq_true hf,hp,cEG,cond_true,e1];unfold fF.fW;rw[e2]
theorem Vk{f fn b:Int}(h:gA.qB f fn b=0):(f=32\/f=64)/\cD.eZ f b=true/\1<=fn/\fn<=6:=by
 unfold gA.qB at h;split at h
 ·omega
 ·split at h
  ·omega
  ·unfold pO.Ra lM.Am at h
   by_cases hf:f=32\/f=64
   ·rw[decide_eq_true hf,cond_true]at h;cases hp:cD.eZ f b with
    |true=>exact⟨hf,rfl,by omega,by omega⟩
    |false=>rw[hp]at h;cases h
   ·rw[decide_eq_false hf]at h;cases h
theorem Yk{f fn b:Int}(hb:0<=b/\b<18446744073709551616)(he:gA.qB f fn b=0)(hs:(lW.Mp f fn b (jW.xT f b)).2=false):Ns f fn b:=by
 obtain⟨hf,hp,f1,f6⟩:=Vk he;obtain⟨aCZ,hc⟩:=Vt hf hb hp;obtain⟨e1,e2⟩:=Mv hf;have h0:=cKI b (show sg f≠0 by unfold sg;split <;> omega);have hi:=(aAR.Uv hf).2.1;rw[e2]at hi;unfold lW.Mp at hs;generalize jW.xT f b=cl at hc hs
 by_cases c0:b%sg f=0
 ·rw[if_pos c0]at hc;rw[aO,aO]at hs
  by_cases c4:4<=fn
  ·rw[if_pos c4,aAR.Vj hf ⟨c4,f6⟩ hp (by rw[e1];exact c0)]at hs;cases hs
  ·rw[if_neg c4,if_pos hc]at hs;split at hs <;> cases hs
 ·rw[if_neg c0]at hc;have fin:b%sg f<kJ.oD (Ch.Eb f):=by
   apply Classical.byContradiction;intro hn;rw[aO,if_neg hn]at hc
   by_cases c3:b%sg f=kJ.oD (Ch.Eb f)
   ·rw[if_pos c3]at hc;rw[aO,if_pos hc]at hs;cases hs
   ·rw[if_neg c3]at hc;rw[if_pos hc]at hs;cases hs
  refine⟨⟨hf,⟨hb.1,aCZ⟩,by omega,fin⟩,f1,f6,fun c4=>?_⟩;have ex:=aAR.aDF hf ⟨c4,f6⟩ hp (by rw[e1];omega) (by rw[e1,e2];exact fin);have bOK:cl=1\/cl=2:=by
   split at hc
   ·exact .inl hc
   ·first |exact .inr hc | (rw[if_pos fin]at hc;exact .inr hc)
  rw[aO,aO,if_pos c4,ex]at hs;cases hx:(fC.An fn (bQ.iK f b)).2.2 with
  |false=>rfl
  |true=>rw[hx,if_pos rfl]at hs;cases hs
theorem aSW{f b:Int}(h:Fin f b):Fin 64 (fB.xV f b)/\bQ.iK 64 (fB.xV f b)=bQ.iK f b:=by
 obtain⟨hf,hb,h1,h2⟩:=h;unfold fB.xV;rcases hf with rfl |rfl
 ·have Ds:sg 32=2147483648:=rfl;have i32:kJ.oD (Ch.Eb 32)=2139095040:=rfl;rw[Ds]at hb h1 h2;rw[i32]at h2;obtain⟨_,w1,w2,w3,w4,w5⟩:=aAR.aEM hb.1 (by omega) h1 h2;rw[if_pos rfl];exact⟨⟨.inr rfl,⟨w1,w2⟩,w3,w4⟩,w5⟩
 ·rw[if_neg (by decide)];exact⟨⟨.inr rfl,hb,h1,h2⟩,rfl⟩
def vZ(fn x:Int):Rat:=if 4<=fn then vT fn x else vx fn x
structure aKP(s:(Int×Int)×(Int×Int))(V:Rat)(p:Int):Prop where
 pl:kT s.1
 ph:kT s.2
 lo:R.qz s.1<=V
 hi:V<=R.qz s.2
 wd:R.qz s.2-R.qz s.1<=R.pz (-p-1)*R.ab V
 v0:V≠0
theorem aKP.Aw{s:(Int×Int)×(Int×Int)}{V:Rat}{p:Int}(h:aKP s V p):fA (nV s.1 s.2):=yW h.pl h.ph (mI.2 (by have:=h.lo;have:=h.hi;grind))
theorem aTR{p:Int}(hp:1<=p):R.pz (-p-1)<=1/4:=by
 have h1:=R.cX (show -p-1<=-2 by omega);have h2:R.pz (-2)*4=1:=by
  have:=R.gL 0 (n:=2) (c:=4) (by norm_cast);rwa [R.gR]at this
 grind
theorem aKP.Xw{s:(Int×Int)×(Int×Int)}{V:Rat}{p:Int}(h:aKP s V p)(hp:1<=p):(0<V->0<R.qz s.1)/\(V<0->R.qz s.2<0):=by
 obtain⟨_,_,lo,hi,wd,v0⟩:=h;have q:=aTR hp;have a0:=R.aP V;have m:=R.aJ a0 (show 0<=1/4-R.pz (-p-1) by grind);have e:R.ab V*(1/4-R.pz (-p-1))=R.ab V/4-R.pz (-p-1)*R.ab V:=by grind
 rw[e]at m;generalize R.pz (-p-1)*R.ab V=W at *;constructor
 ·intro hV;rw[R.bR (cGL hV)]at m;grind
 ·intro hV;have:R.ab V=-V:=by unfold R.ab;rw[if_neg (by grind)]
  rw[this]at m;grind
theorem xJ{f fn b p:Int}(h:Ns f fn b)(hp:1<=p/\p<=66000):kQ.pre (fB.gV fn) fn (fB.xV f b) p/\aKP (kQ.enc (fB.gV fn) fn (fB.xV f b) p) (vZ fn (fB.xV f b)) p:=by
 obtain⟨⟨_,hb,h1,h2⟩,bGH⟩:=aSW h.fin;have ex:=h.ex;rw[<-bGH]at ex;generalize fB.xV f b=x at *;have hx:0<=x/\x<18446744073709551616:=hb;have h1:0<x%9223372036854775808:=h1;have h2:x%9223372036854775808<9218868437227405312:=h2;have f1:=h.f1;have f6:=h.f6;unfold kQ.pre kQ.enc fB.gV vZ
 by_cases c4:4<=fn
 ·rw[if_pos c4,if_pos c4];have ex:=ex c4;have h4:fn=4\/fn=5\/fn=6:=by omega
  have hf:cE.jD 64 x=true:=decide_eq_true h2;have hodd:=aAR.aGC (f:=64) (.inr rfl) hx.1 h1;have xB:tW.bBL fn x=false:=by
   unfold tW.bBL;rw[ex,beq_eq_false_iff_ne.2 (show(bQ.iK 64 x).1≠0 by omega)];rfl
  have pB:tW.aXC fn x=false:=by unfold tW.aXC;rw[ex,Bool.and_false,cGN]
  have N:=aLY (k:=dU.Du (dU.qR x)) (tW.aNR hx.1 hf h4 xB) hp h4;rw[if_neg (by decide)];refine⟨.inr ⟨rfl,⟨hx,h4,hp,hf⟩,pB⟩,?_⟩;unfold tW.aWT;rw[xB,cond_false];have m0:=N.bx.m0;have lo:=N.bx.lo;have hi:=N.bx.hi;exact⟨N.bx.pl,N.bx.ph,by unfold vT;grind,by unfold vT;grind,N.bx.wd,N.v0⟩
 ·rw[if_neg c4,if_neg c4,if_pos rfl];have c:fN.Xb fn x p=0:=by rw[aLS,aO,aO,aO,aO,if_pos h2]
  obtain⟨hr,hf,_,z⟩:=aTM hx c (by omega);refine⟨.inl ⟨rfl,hx,c⟩,?_⟩;rw[aPW c z];have N:=bBQ (p:=p) hr hf hp;have m0:=N.bx.m0;have lo:=N.bx.lo;have hi:=N.bx.hi;have wd:=N.bx.wd;have pm:=R.cX (show -p-8<=-p-1 by omega);have mm:=R.aJ (R.aP (R.fv fn (R.qz (bB.sW x)) (kx x))) (show 0<=R.pz (-p-1)-R.pz (-p-8) by grind);exact⟨N.bx.pl,N.bx.ph,by unfold vx;grind,by unfold vx;grind,by unfold vx;grind,N.v0⟩
end W.Ziv
namespace AI
open Go Go.RowKit
abbrev O0:Nat->Prop:=fun _=>False
theorem Nt{w w':World}(h:Below w.heap.size w w'):iT O0 w O0 w':=⟨h.size,fun b hb _=>⟨h.block b hb,id⟩⟩
theorem wP{G:Nat->Option (IntKind×List Int)}{w w':World}(h:GlobOk G O0 w)(hb:Below w.heap.size w w'):GlobOk G O0 w':=fun g k ns e=>by
 obtain⟨h1,_,h3⟩:=h g k ns e;exact⟨cCB h1 hb.size,id,h3.later (Nt hb)⟩
theorem Ph{Y:Nat->Prop}{w:World}:iT Y w O0 w:=⟨cBE _,fun _ _ _=>⟨rfl,id⟩⟩
theorem aJH{G:Nat->Option (IntKind×List Int)}{Y:Nat->Prop}{w:World}(h:GlobOk G Y w):GlobOk G O0 w:=fun g k ns e=>by
 obtain⟨h1,_,h3⟩:=h g k ns e;exact⟨h1,id,h3.later Ph⟩
theorem Pd{P:Program}{G:Nat->Option (IntKind×List Int)}{f:FuncId}{o:dJ}(h:mN P G f o){ds rs:List D}{g:Prop}(e:o ds=some (g,rs))(hg:g){w:World}(hG:GlobOk G O0 w){vs:List Value}(hl:ds.length=vs.length)
  (hd:∀(i:Nat) (d:D) (v:Value),ds[i]?=some d->vs[i]?=some v->mY O0 w d v) :
  Calls P f vs.toArray w fun e w'=>∃vI,e=.returned (resV vI)/\Below w.heap.size w w'/\Wm O0 w.heap.size w' rs vI :=
 (h ds g rs e hg).1 O0 w vs (fun _ hb=>hb.elim) hG hl hd
def Qg(v:Value):D:=.s (.sc v)
theorem Pc{P:Program}{G:Nat->Option (IntKind×List Int)}{f:FuncId}{o:dJ}(h:mN P G f o){xs ys:List Value}{g:Prop}(e:o (xs.map Qg)=some (g,ys.map Qg))(hg:g){w:World}(hG:GlobOk G O0 w)(hx:∀x∈xs,x.oneCell'=true) :
  Calls P f xs.toArray w fun e w'=>e=.returned (resV ys)/\Below w.heap.size w w':=by
 refine(Pd h e hg hG (vs:=xs) (by simp) (fun i d v hd hv=>?_)).mono ?_
 ·simp only[List.getElem?_map,Option.map_eq_some_iff]at hd;obtain⟨x,aUN,rfl⟩:=hd;rw[hv]at aUN;cases aUN;exact⟨rfl,hx v (List.mem_of_getElem? hv)⟩
 ·rintro e w' ⟨vI,rfl,hb,g,aOT,-,aLD⟩;refine⟨?_,hb⟩;congr 2;apply cFD;intro i;have aOT:ys.length=vI.length:=by simpa using aOT
  cases hi:vI[i]? with
  |none =>
   have:vI.length<=i:=List.getElem?_eq_none_iff.1 hi;exact(List.getElem?_eq_none_iff.2 (by omega)).symm
  |some v =>
   have kM:i<ys.length:=by rw[aOT];exact(List.getElem?_eq_some_iff.1 hi).1
   have hy:ys[i]?=some ys[i]:=cBV kM;have:=aLD i (Qg ys[i]) v (by simp[hy]) hi;rw[hy,this.1]
structure Pq(w:World)(n1:Bool)(l1:List Int)(e1:Int)(n2:Bool)(l2:List Int)(e2:Int)(s1 s2:Value):Prop where
 a:pM O0 w (.ints .u64 l1) s1
 b:pM O0 w (.ints .u64 l2) s2
theorem Pq.later{w w':World}{n1 n2:Bool}{l1 l2:List Int}{e1 e2:Int}{s1 s2:Value}(h:Pq w n1 l1 e1 n2 l2 e2 s1 s2)(hb:Below w.heap.size w w'):Pq w' n1 l1 e1 n2 l2 e2 s1 s2 :=
 ⟨h.a.later (Nt hb),h.b.later (Nt hb)⟩
theorem Pq.rep{w:World}{n1 n2:Bool}{l1 l2:List Int}{e1 e2:Int}{s1 s2:Value}(h:Pq w n1 l1 e1 n2 l2 e2 s1 s2):mY O0 w (.agg [.sc (.bool n1),.ints .u64 l1,.sc (.int .i64 e1),.sc (.bool n2),.ints .u64 l2,.sc (.int .i64 e2)]) (.agg #[.bool n1,s1,.int .i64 e1,.bool n2,s2,.int .i64 e2]):=by
 refine⟨_,rfl,rfl,fun i s u hs hu=>?_⟩
 match i with
 |0=>cases hs;cases hu;exact⟨rfl,rfl⟩
 |1=>cases hs;cases hu;exact h.a
 |2=>cases hs;cases hu;exact⟨rfl,rfl⟩
 |3=>cases hs;cases hu;exact⟨rfl,rfl⟩
 |4=>cases hs;cases hu;exact h.b
 |5=>cases hs;cases hu;exact⟨rfl,rfl⟩
 |i+6=>simp at hs
theorem Zu{P:Program}{G:Nat->Option (IntKind×List Int)}{f:FuncId}{xs ys:List Value}{rs:List D}(h:∀w,GlobOk G O0 w->Calls P f xs.toArray w fun e w'=>e=.returned (resV ys)/\Below w.heap.size w w')(hl:rs.length=ys.length)
  (hr:∀(i:Nat) (d:D) (v:Value),rs[i]?=some d->ys[i]?=some v->lH d=false/\∀(Y:Nat->Prop) (w:World),mY Y w d v):Contract P G f (xs.map Qg) rs:=by
 intro Y w vs hY hG hlen bFQ;have e:vs=xs:=by
  apply cFD;intro i;have hlen:xs.length=vs.length:=by simpa using hlen
  cases hi:vs[i]? with
  |none =>
   have:vs.length<=i:=List.getElem?_eq_none_iff.1 hi;exact(List.getElem?_eq_none_iff.2 (by omega)).symm
  |some v =>
   have kM:i<xs.length:=by rw[hlen];exact(List.getElem?_eq_some_iff.1 hi).1
   have hx:xs[i]?=some xs[i]:=cBV kM;have:=bFQ i (Qg xs[i]) v (by simp[hx]) hi;rw[hx,this.1]
 subst e;refine(h w (aJH hG)).mono ?_;rintro e w' ⟨rfl,hb⟩;refine⟨ys,rfl,hb,fun _=>0,hl,fun i j d d' hd _ ho=>?_,fun i d v hd hv=>?_⟩
 ·obtain⟨v,hv⟩:=bG (l:=ys) (i:=i) (by have:=aX hd;omega);rw[(hr i d v hd hv).1]at ho;cases ho
 ·obtain⟨h1,h2⟩:=hr i d v hd hv;cases d with
  |own=>cases h1
  |_=>exact h2 _ _
theorem bPY{Y:Nat->Prop}{w:World}{x y z:Value}(hx:x.oneCell'=true)(hy:y.oneCell'=true)(hz:z.oneCell'=true):mY Y w (.agg [.sc x,.sc y,.sc z]) (.agg #[x,y,z]):=by
 refine⟨_,rfl,rfl,fun i s u hs hu=>?_⟩
 match i with
 |0=>cases hs;cases hu;exact⟨rfl,hx⟩
 |1=>cases hs;cases hu;exact⟨rfl,hy⟩
 |2=>cases hs;cases hu;exact⟨rfl,hz⟩
 |i+3=>simp at hs
theorem aTV{P:Program}{G:Nat->Option (IntKind×List Int)}{f:FuncId}{α β γ δ ε:Type}{p:mJ α}{q:mJ β}{r:mJ γ}{s:mJ δ}{t:mJ ε}{sp:α->β->γ->δ->ε->Prop×List D}(hb:rB P f)
  (h:∀a b c d e,(sp a b c d e).1->Contract P G f [p.put a,q.put b,r.put c,s.put d,t.put e] (sp a b c d e).2):mN P G f (orc5 p q r s t sp):=by
 intro ds g rs ho hg;unfold orc5 at ho;split at ho
 ·rename_i a1 a2 a3 a4 a5;split at ho
  ·rename_i h1 h2 h3 h4 h5;have e:=Option.some.inj ho;have c:=(h _ _ _ _ _ (by rw[e];exact hg)).of (ds:=[a1,a2,a3,a4,a5]) rfl (fun i d d' hd Ee Y w v hr=>by
    match i with
    |0=>cases hd;cases Ee;exact p.le h1 Y w v hr
    |1=>cases hd;cases Ee;exact q.le h2 Y w v hr
    |2=>cases hd;cases Ee;exact r.le h3 Y w v hr
    |3=>cases hd;cases Ee;exact s.le h4 Y w v hr
    |4=>cases hd;cases Ee;exact t.le h5 Y w v hr
    |i+5=>simp at hd)
   rw[e]at c;exact⟨c,hb⟩
  ·cases ho
 ·cases ho
end AI
namespace W
open Go AI M
namespace kD
def E:=mE [] 16 [] [] []
def aE:=bd f75
theorem aT:Nk E aE:=nk
theorem start a b:aF E f75 aE [D.s (sc (int i64 a)),D.s (sc (int i64 b))]=letI A:=some [D.s (sc (bool false))];aB (decide (1<=a)) (aB (decide (a<=b)) (some [D.s (sc (bool (decide (b<=66000))))]) A) A:=eJ aT
def Im(a b:Int):Bool:=decide (1<=a/\a<=b/\b<=66000)
def sp(a b:Int):Prop×List D:=(True,[.s (.sc (.bool (Im a b)))])
theorem spec:fL E f75 aE (pN .i64) (pN .i64) sp:=by
 intro a b h;refine(start a b).trans ?_;unfold sp Im;dsimp only
 by_cases h1:1<=a
 ·rw[aN h1]
  by_cases h2:a<=b
  ·rw[aN h2]
   by_cases h3:b<=66000
   ·rw[decide_eq_true h3,decide_eq_true ⟨h1,h2,h3⟩]
   ·rw[decide_eq_false h3,decide_eq_false (by omega)]
  ·rw[aL h2,decide_eq_false (by omega)]
 ·rw[aL h1,decide_eq_false (by omega)]
def aI:dJ:=orc2 (pN .i64) (pN .i64) sp
theorem ok:OK 75 aI:=(eB E aE aC func75).lF rfl spec
end kD
namespace pW
def E:=mE [(52,Ch.aI),(67,wV.aI),(15,gG.aI)] 40 [26] [] []
def aE:=bd f127
theorem aT:Nk E aE:=nk
theorem start a b c d e f g:aF E f127 aE [D.s (sc (int i64 a)),D.agg [sc (bool b),ints u64 c,sc (int i64 d),sc (bool e),ints u64 f,sc (int i64 g)]]=letI A:=Ch.Eb a;aM True (aD A.snd.fst fun h=>aD A.snd.snd fun i=>aB (A.fst==0&&(h==0&&(i==0&&true))) (some [D.s (sc (int u64 0)),D.s (sc (bool false)),D.s (sc (int i64 1))]) (aM (fA (b,c,d,e,f,g)) (aM ((a=32\/a=64)/\aU (b,c,d)) (aD (gG.iN a (dv (b,c,d))) fun j=>aM ((a=32\/a=64)/\aU (e,f,g)) (aD (gG.iN a (dv (e,f,g))) fun k=>aB (j !=k) (some [D.s (sc (int u64 0)),D.s (sc (bool false)),D.s (sc (int i64 0))]) (some [D.s (sc (int u64 j)),D.s (sc (bool true)),D.s (sc (int i64 0))])))))):=eJ aT
def aLJ(f:Int)(s:(Int×Int)×(Int×Int)):Int×Bool:=if gG.iN f s.1=gG.iN f s.2 then(gG.iN f s.1,true)else(0,false)
def sp(f:Int)(s:yN):Prop×List D:=((f=32\/f=64)/\fA s,[.s (.sc (.int .u64 (aLJ f (dv (iR s),dv (iS s))).1)),.s (.sc (.bool (aLJ f (dv (iR s),dv (iS s))).2)),.s (.sc (.int .i64 0))])
theorem spec:fL E f127 aE (pN .i64) Ab sp:=by
 rintro f s ⟨hf,hs⟩;refine(start f s.1 s.2.1 s.2.2.1 s.2.2.2.1 s.2.2.2.2.1 s.2.2.2.2.2).trans ?_;have h0:((Ch.Eb f).1==0)=false:=by rcases hf with rfl |rfl <;> rfl
 rw[gP trivial,aG,aG,h0,cGN,bF,gP hs,gP ⟨hf,hs.1⟩,aG,gP ⟨hf,hs.2.1⟩,aG];unfold sp aLJ;dsimp only;show aB (gG.iN f (dv (iR s)) !=gG.iN f (dv (iS s))) _ _=_
 by_cases c:gG.iN f (dv (iR s))=gG.iN f (dv (iS s))
 ·rw[if_pos c,gD c];rfl
 ·rw[if_neg c,nW c]
def aI:dJ:=orc2 (pN .i64) Ab sp
theorem ok:OK 127 aI:=(eB E aE (aA Ch.ok (aA wV.ok (aA gG.ok aC))) func127).lF rfl spec
end pW
namespace Aj
def E:=mE [(126,kQ.aI),(127,pW.aI)] 33 [23] [] []
def aE:=bd f74
theorem aT:Nk E aE:=nk
theorem start f g fn x p:aF E f74 aE [D.agg [sc (int i64 f),S.Vu (126:FuncId) [Value.func (Fn.func g) #[] #[],int i64 fn,int u64 x]],D.s (sc (int i64 p))]=letI A:=kQ.enc g fn x p;aM (kQ.pre g fn x p) (aD (isNeg A.fst.fst) fun a=>aD (M6.dg A.fst.fst.natAbs) fun b=>aD A.fst.snd fun c=>aD (isNeg A.snd.fst) fun d=>aD (M6.dg A.snd.fst.natAbs) fun e=>aD A.snd.snd fun h=>letI C:=(a,b,c,d,e,h);letI B:=pW.aLJ f (dv (iR C),dv (iS C));aM ((f=32\/f=64)/\fA C) (aD B.fst fun i=>aD B.snd fun j=>aB j (some [D.s (sc (int u64 i)),D.s (sc (bool true))]) (some [D.s (sc (int u64 i)),D.s (sc (bool false))]))):=eJ aT
def dec(f:Int)(g:Nat)(fn x p:Int):Int×Bool:=pW.aLJ f (kQ.enc g fn x p)
def sp(q:Int×Nat×Int×Int)(p:Int):Prop×List D:=(kQ.pre q.2.1 q.2.2.1 q.2.2.2 p/\(q.1=32\/q.1=64)/\fA (nV (kQ.enc q.2.1 q.2.2.1 q.2.2.2 p).1 (kQ.enc q.2.1 q.2.2.1 q.2.2.2 p).2),[.s (.sc (.int .u64 (dec q.1 q.2.1 q.2.2.1 q.2.2.2 p).1)),.s (.sc (.bool (dec q.1 q.2.1 q.2.2.1 q.2.2.2 p).2))])
theorem fold(a b:Int×Int):(isNeg a.1,M6.dg a.1.natAbs,a.2,isNeg b.1,M6.dg b.1.natAbs,b.2)=nV a b:=rfl
theorem spec:fL E f74 aE (pG (.pair (sN .i64) (bES 126 (lc vF (lc (vN .i64) (l1 (vN .u64))))))) (pN .i64) sp:=by
 intro q p h;obtain⟨f,g,fn,x⟩:=q;obtain⟨h1,h2,h3⟩:=h;refine(start f g fn x p).trans ?_;have h1:kQ.pre g fn x p:=h1;unfold sp dec;dsimp only at *;rw[gP h1,aG,aG,aG,aG,aG,aG,fold,gP ⟨h2,h3⟩,qE,qF,aG,aG];show aB (pW.aLJ f (kQ.enc g fn x p)).2 _ _=_;cases (pW.aLJ f (kQ.enc g fn x p)).2 <;> rfl
def aI:dJ:=orc2 (pG (.pair (sN .i64) (bES 126 (lc vF (lc (vN .i64) (l1 (vN .u64))))))) (pN .i64) sp
theorem ok:OK 74 aI:=(eB E aE (aA kQ.ok (aA pW.ok aC)) func74).lF rfl spec
end Aj
namespace dA
def E:=mE [(71,gA.aI),(72,lW.aI),(73,fB.aI),(74,Aj.aI)] 54 [21,38,49] [(4,[0,1,2,3,11,12])] [4]
def aE:=bd f27
theorem aT:Nk E aE:=nk
def J4 a b c d e f:=lP E f27 aE 4 [bN a,bN b,dO c,bN d,bN e,bN f]
theorem start a b c d:aF E f27 aE [D.s (sc (int i64 a)),D.s (sc (int i64 b)),D.s (sc (int u64 c)),D.s (sc (int i64 d))]=letI A:=dA.J4 a b c d (jW.xT a c) 1;aM (0<=c/\c<18446744073709551616) (aB (decide (d<1)) A (aB (decide (66000<d)) A (dA.J4 a b c d (jW.xT a c) (gA.qB a b c)))):=eJ aT
theorem Ek a b c d e f:J4 a b c d e f=letI F:=lW.Mp a b c e;letI A:=(a,fB.gV b,b,fB.xV a c);letI C:=kQ.enc A.snd.fst A.snd.snd.fst A.snd.snd.snd d;letI B:=Aj.dec A.fst A.snd.fst A.snd.snd.fst A.snd.snd.snd d;aB (f !=0) (some [D.s (sc (int u64 0)),D.s (sc (bool false)),D.s (sc (int i64 f))]) (aM ((a=32\/a=64)/\0<=c/\c<18446744073709551616) (aD F.fst fun g=>aD F.snd fun h=>aB h (some [D.s (sc (int u64 g)),D.s (sc (bool true)),D.s (sc (int i64 0))]) (aM (0<=c/\c<18446744073709551616) (aM (kQ.pre (fB.gV b) b (fB.xV a c) d/\(a=32\/a=64)/\fA (nV C.fst C.snd)) (aD B.fst fun i=>aD B.snd fun j=>some [D.s (sc (int u64 i)),D.s (sc (bool j)),D.s (sc (int i64 0))]))))):=cJ aT
def zK(f fn b p:Int):Int×Bool:=Aj.dec f (fB.gV fn) fn (fB.xV f b) p
def aVO(f fn b p:Int):Int:=if 1<=p/\p<=66000 then gA.qB f fn b else 1
def Kg(f fn b:Int):Int×Bool:=lW.Mp f fn b (jW.xT f b)
def aKB(f fn b p:Int):Int×Bool:=if aVO f fn b p≠0 then(0,false)else bif (Kg f fn b).2 then((Kg f fn b).1,true)else zK f fn b p
def sp(f fn b p:Int):Prop×List D:=(0<=b/\b<18446744073709551616,[.s (.sc (.int .u64 (aKB f fn b p).1)),.s (.sc (.bool (aKB f fn b p).2)),.s (.sc (.int .i64 (aVO f fn b p)))])
theorem spec:Rr E f27 aE (pN .i64) (pN .i64) (pN .u64) (pN .i64) sp:=by
 intro f fn b p h;have hb:0<=b/\b<18446744073709551616:=h;refine(start f fn b p).trans ((gP hb).trans ?_);have j1:∀e:Int,e≠0->J4 f fn b p (jW.xT f b) e=some [.s (.sc (.int .u64 0)),.s (.sc (.bool false)),.s (.sc (.int .i64 e))]:=fun e he=>by rw[Ek,nW he]
 unfold sp aKB aVO;dsimp only
 by_cases hp:1<=p/\p<=66000
 ·rw[aL,aL,if_pos hp]
  by_cases he:gA.qB f fn b=0
  ·obtain⟨hf,_⟩:=Ziv.Vk he;rw[aO,Ek,he,gD rfl,gP ⟨hf,hb⟩,aG,aG];unfold Kg;cases hs:(lW.Mp f fn b (jW.xT f b)).2 with
   |true=>rfl
   |false =>
    obtain⟨h1,h2⟩:=Ziv.xJ (Ziv.Yk hb he hs) hp;rw[bF,gP hb,gP ⟨h1,hf,h2.Aw⟩,aG,aG];rfl
  ·rw[j1 _ he,if_pos he]
 ·rw[if_neg hp,aQ]
  by_cases Ao:p<1
  ·rw[aN Ao,j1 _ (by decide)]
  ·rw[aL Ao,aN,j1 _ (by decide)]
def aI:dJ:=orc4 (pN .i64) (pN .i64) (pN .u64) (pN .i64) sp
theorem ok:OK 27 aI:=(eB E aE (aA gA.ok (aA lW.ok (aA fB.ok (aA Aj.ok aC)))) func27).aSJ rfl spec
end dA
namespace IvLadder
open Go.RowKit Go.Shelf
attribute [local go_sem] Oper.semAt_some
def rungsF:Nat->Int->Int->List Int
 |0,_,_=>[]
 |n+1,p,l=>if p<=l then p :: rungsF n (p*2) l else []
abbrev aAQ:={ x:Int // 1<=x/\x<=66000 }
theorem Jt{k:Nat}{p l:Int}(h:p<=l):rungsF (k+1) p l=p :: rungsF k (p*2) l:=by
 rw[rungsF,if_pos h]
set_option maxRecDepth 100000 in
set_option maxHeartbeats 2000000 in
theorem make (w:World) (a b:Int):Calls prog 70 #[.int .i64 a,.int .i64 b] w fun e w'=>e=.returned (.func (.func 124) #[] #[.pointer (some ⟨w.heap.size,0,none⟩),.pointer (some ⟨w.heap.size+1,0,none⟩)])/\w'=(w.alloc (.cells #[.int .i64 a] 3)).alloc (.cells #[.int .i64 b] 3):=by
 refine(callsIn_wide (n:=1)).1 ?_;refine callsIn_of_wp func70 rfl trivial ?_ rfl;simp only[Tryz.ntmps70,cCU,cEP,cEQ,cPZ,cQA,Array.replicate_succ,Array.replicate_zero,cQB,cQC,cFH,cCX]
 gi_wp2
 go_ret
 exact⟨by simp,rfl⟩
set_option maxRecDepth 100000 in
set_option maxHeartbeats 4000000 in
theorem each (F:Fence) (n:Nat) (hF:F.fn 124) (bSZ:F.fn 75) (bMX:F.round=none) (hn:1<=n) (l B n₀:Nat) (a b:Int) (ha:1<=a/\a<=66000) (hb:b<=66000) (aYB:a<=b)
  (W:World) (aCV:∀w',Below W.heap.size W w'->CallsIn F (n-1) prog 75 #[.int .i64 a,.int .i64 b] w' fun e w2=>e=.returned (.bool true)/\Below w'.heap.size w' w2) (J Jx:List aAQ->World->Prop)
  (hJ:∀pre W',J pre W->Below W.heap.size W W'->J pre W')
  (hY:∀pre x W,J pre W->pre.length<17->YieldAt F (n-1) prog l #[.int .i64 x.1] W fun e W' =>
   (e=.returned (.bool true)/\J (pre ++ [x]) W'/\Below n₀ W W')\/(e=.returned (.bool false)/\Jx (pre ++ [x]) W'))
  (hB:B+1<n₀) (Dw:n₀<=W.heap.size) (h1:W.cell? ⟨B,0,none⟩=some (.int .i64 a)) (h2:W.cell? ⟨B+1,0,none⟩=some (.int .i64 b)) (h0:J [] W) :
  CallsIn F n prog 124 #[.func (.yield l) #[] #[],.pointer (some ⟨B,0,none⟩),.pointer (some ⟨B+1,0,none⟩)] W fun e W'=>(∃v,e=.returned v) /\
   ((∃ys:List aAQ,ys.map (·.1)=rungsF 17 a b/\J ys W')\/(∃pre:List aAQ,pre.map (·.1) <+: rungsF 17 a b/\Jx pre W')):=by
 refine callsIn_of_wp func124 rfl hF ?_ bMX;simp only[Tryz.ntmps124,cCU,cEP,cEQ,cPZ,cQA,Array.replicate_succ,Array.replicate_zero,cQB,cQC,cFH,cCX]
 gi_wp2_with (gi_at_call 75;refine(aCV _ (Below.refl _ _)).mono ?_;rintro e w1 ⟨rfl,xQ⟩;have c1:w1.cell? ⟨B,0,none⟩=some (.int .i64 a):=(xQ.cell (p:=⟨B,0,none⟩) (show B<_ by omega)).trans h1;have c2:w1.cell? ⟨B+1,0,none⟩=some (.int .i64 b):=(xQ.cell (p:=⟨B+1,0,none⟩) (show B+1<_ by omega)).trans h2)
 gi_loopw [4] (fun v wr=>∃(k:Nat) (pre:List aAQ) (p:Int),v=.int .i64 p/\(1<=p/\p<=132000)/\rungsF 17 a b=pre.map (·.1) ++ rungsF k p b/\pre.length+k=17/\b<p*2^k/\J pre wr/\Below n₀ W wr)
  (fun v _=>(b+1-intOf v).toNat)
 case atStart=>exact⟨17,[],a,rfl,⟨ha.1,by omega⟩,rfl,rfl,(by show b<a*131072;omega),hJ _ _ h0 xQ,xQ.mono Dw⟩
 case round =>
  obtain⟨k,pre,p,rfl,hp,hr,hk,bAL,bSX,aLG⟩:=hrel;have c3:wr.cell? ⟨B+1,0,none⟩=some (.int .i64 b):=(aLG.cell (p:=⟨B+1,0,none⟩) (show B+1<_ by omega)).trans h2
  by_cases hle:p<=b
  ·obtain⟨fn,tmps,assign,body,hy,hR⟩:=hY pre ⟨p,hp.1,by omega⟩ wr bSX (by
    cases k with
    |zero=>simp at bAL;omega
    |succ k=>omega)
   obtain⟨k,rfl⟩:∃j,k=j+1:=by
    cases k with
    |zero=>simp at bAL;omega
    |succ k=>exact⟨k,rfl⟩
   rw[Jt hle]at hr
   gi_wp2
   refine hR.mono ?_;rintro e W3 (⟨rfl,bZP,bXO⟩ |⟨rfl,bOZ⟩)
   ·gi_wp2
    go_roundw
    case rel =>
     exact⟨k,pre ++ [⟨p,hp.1,by omega⟩],p*2,rfl,⟨by omega,by omega⟩,by simp[hr],by simp;omega,by rw[Int.pow_succ]at bAL;rw[cHR,Int.mul_comm 2];exact bAL,bZP,aLG.trans bXO⟩
    case measure=>simp[intOf];omega
   ·gi_wp2
    refine bodyPost_ret (results_none rfl _ _ _) rfl ?_;exact⟨⟨_,rfl⟩,.inr ⟨pre ++ [⟨p,hp.1,by omega⟩],⟨rungsF k (p*2) b,by simp[hr]⟩,bOZ⟩⟩
  ·have k3:rungsF k p b=[]:=by cases k with
    |zero=>rfl
    |succ k=>unfold rungsF;rw[if_neg hle]
   rw[k3,List.append_nil]at hr
   gi_wp2
   go_end0
   exact⟨⟨_,rfl⟩,.inl ⟨pre,rfl,bSX⟩⟩
theorem stops(F:Fence)(n:Nat)(hF:F.fn 124)(bSZ:F.fn 75)(bMX:F.round=none)(hn:1<=n)(B n₀:Nat)(a b:Int)(ha:1<=a/\a<=66000)(hb:b<=66000)(aYB:a<=b)(w:World)
  (aCV:∀w',Below w.heap.size w w'->CallsIn F (n-1) prog 75 #[.int .i64 a,.int .i64 b] w' fun e w2=>e=.returned (.bool true)/\Below w'.heap.size w' w2) (hB:B+1<n₀) (Dw:n₀<=w.heap.size) (h1:w.cell? ⟨B,0,none⟩=some (.int .i64 a)) (h2:w.cell? ⟨B+1,0,none⟩=some (.int .i64 b)) :
  SeqStopsK F n prog 124 #[.pointer (some ⟨B,0,none⟩),.pointer (some ⟨B+1,0,none⟩)] (fun x:aAQ=>#[Value.int .i64 x.1]) (Below n₀) (fun ys=>ys.map (·.1)=rungsF 17 a b) (fun pre=>pre.map (·.1) <+: rungsF 17 a b) 17 w:=fun l J Jx W hW hJ _ hY h0 =>
 each F n hF bSZ bMX hn l B n₀ a b ha hb aYB W (fun w2 bJI=>aCV w2 (hW.trans (bJI.mono hW.size))) J Jx (fun pre W' hp Qn=>hJ pre _ _ none hp ⟨Qn.os,Qn.tape,Qn.output,Qn.size,fun k hk _=>Qn.block k hk⟩ (fun r e=>by cases e)) hY hB (cCA Dw hW.size)
  ((hW.cell (p:=⟨B,0,none⟩) (show B<_ by omega)).trans h1) ((hW.cell (p:=⟨B+1,0,none⟩) (show B+1<_ by omega)).trans h2) h0
end IvLadder
namespace IvClimb
open Go.RowKit Go.Shelf
attribute [local go_sem] Oper.semAt_some
theorem one{W:World}{B:Nat}{v:Value}{t:TypeId}(h:W.heap[B]?=some (.cells #[v] t (0,0))):W.cell? ⟨B,0,none⟩=some v/\W.frozen? ⟨B,0,none⟩=false:=by
 constructor <;> simp[World.cell?,World.frozen?,h]
theorem three{W:World}{B:Nat}{u v x:Value}{t:TypeId}(h:W.heap[B]?=some (.cells #[u,v,x] t (0,0))):W.cell? ⟨B,0,none⟩=some u/\W.cell? ⟨B,1,none⟩=some v/\W.cell? ⟨B,2,none⟩=some x/\W.frozen? ⟨B,0,none⟩=false/\W.frozen? ⟨B,1,none⟩=false/\W.frozen? ⟨B,2,none⟩=false:=by
 refine⟨?_,?_,?_,?_,?_,?_⟩ <;> simp[World.cell?,World.frozen?,h]
theorem bLX(n:Nat){f fn b E:Int}(hb:0<=b/\b<18446744073709551616)(he:gA.qB f fn b=E){w:World}(hG:GlobOk base.glob O0 w):∀w',Below w.heap.size w w'->CallsIn Fence.wide n prog 71 #[.int .i64 f,.int .i64 fn,.int .u64 b] w' fun e w2=>e=.returned (.tuple #[.int .i64 (jW.xT f b),.int .i64 E])/\Below w'.heap.size w' w2:=fun w' tR =>
 callsIn_wide.2 (by have c:=Pc gA.ok (xs:=[.int .i64 f,.int .i64 fn,.int .u64 b]) (ys:=[.int .i64 (jW.xT f b),.int .i64 (gA.qB f fn b)]) rfl hb (wP hG tR) (by simp[Value.oneCell']);rw[he]at c;exact c)
theorem bLW(n:Nat){s l:Int}{B:Bool}(hl:kD.Im s l=B){w:World}(hG:GlobOk base.glob O0 w):∀w',Below w.heap.size w w'->CallsIn Fence.wide n prog 75 #[.int .i64 s,.int .i64 l] w' fun e w2=>e=.returned (.bool B)/\Below w'.heap.size w' w2:=fun w' tR =>
 callsIn_wide.2 (by have c:=Pc kD.ok (xs:=[.int .i64 s,.int .i64 l]) (ys:=[.bool (kD.Im s l)]) rfl trivial (wP hG tR) (by simp[Value.oneCell']);rw[hl]at c;exact c)
theorem bRC(n:Nat){f fn b:Int}{B:Bool}(hb:0<=b/\b<18446744073709551616)(he:gA.qB f fn b=0)(hs:(dA.Kg f fn b).2=B){w:World}(hG:GlobOk base.glob O0 w):∀w',Below w.heap.size w w'->CallsIn Fence.wide n prog 72 #[.int .i64 f,.int .i64 fn,.int .u64 b,.int .i64 (jW.xT f b)] w' fun e w2=>e=.returned (.tuple #[.int .u64 (dA.Kg f fn b).1,.bool B])/\Below w'.heap.size w' w2:=fun w' tR =>
 callsIn_wide.2 (by have c:=Pc lW.ok (xs:=[.int .i64 f,.int .i64 fn,.int .u64 b,.int .i64 (jW.xT f b)]) (ys:=[.int .u64 (dA.Kg f fn b).1,.bool (dA.Kg f fn b).2]) rfl ⟨(Ziv.Vk he).1,hb⟩ (wP hG tR) (by simp[Value.oneCell']);rw[hs]at c;exact c)
theorem opened(w:World):∃W2,(w.alloc (.cells #[.int .u64 0,.bool false,.int .i64 0] 62)).alloc (.cells #[.int .i64 0] 30)=W2/\Below w.heap.size w W2/\W2.heap.size=w.heap.size+2/\W2.heap[w.heap.size]?=some (.cells #[.int .u64 0,.bool false,.int .i64 0] 62 (0,0))/\W2.heap[w.heap.size+1]?=some (.cells #[.int .i64 0] 30 (0,0)):=by
 refine⟨_,rfl,((Below.refl _ w).alloc (cBE _) _).alloc (by simp) _,by simp,(Below.heap_alloc _ _ _ (by simp)).trans (World.alloc_heap_new w _),?_⟩;have:=World.alloc_heap_new (w.alloc (.cells #[.int .u64 0,.bool false,.int .i64 0] 62)) (.cells #[.int .i64 0] 30);simpa using this
set_option maxRecDepth 100000 in
set_option maxHeartbeats 4000000 in
theorem bad (f fn b s l:Int) (hb:0<=b/\b<18446744073709551616) (he:(if kD.Im s l then gA.qB f fn b else 1)≠0) {w:World} (hG:GlobOk base.glob O0 w):Calls prog 28 #[.int .i64 f,.int .i64 fn,.int .u64 b,.int .i64 s,.int .i64 l] w fun e w'=>e=.returned (.tuple #[.agg #[.int .u64 0,.bool false,.int .i64 0],.int .i64 (if kD.Im s l then gA.qB f fn b else 1)])/\Below w.heap.size w w':=by
 refine(callsIn_wide (n:=1)).1 ?_;refine callsIn_of_wp func28 rfl trivial ?_ rfl;simp only[Tryz.ntmps28,cCU,cEP,cEQ,cPZ,cQA,Array.replicate_succ,Array.replicate_zero,cQB,cQC,cFH,cCX];have bDZ:=bLX 0 (f:=f) (fn:=fn) hb rfl hG;have bBE:=bLW 0 (s:=s) (l:=l) rfl hG;obtain⟨W2,bKJ,aGU,z2,r1,r2⟩:=opened w;cases hl:kD.Im s l with
 |true =>
  rw[hl,if_pos rfl]at he;rw[if_pos rfl];have Bp:(gA.qB f fn b==0)=false:=beq_eq_false_iff_ne.2 he
  gi_wp2_with (refine⟨trivial,?_⟩;first | (gi_at_call 71;refine(bDZ _ aGU).mono ?_;rintro e w3 ⟨rfl,Dx⟩;have aPH:Below w.heap.size w w3:=aGU.trans (Dx.mono (by omega))) | (gi_at_call 75;refine(bBE _ aPH).mono ?_;rintro e w4 ⟨rfl,Sr⟩;have bMC:=Dx.size;have aVE:Below w.heap.size w w4:=aPH.trans (Sr.mono (by omega));obtain⟨c1,c2,c3,k1,k2,k3⟩:=three (((Sr.block _ (by omega)).trans (Dx.block _ (by omega))).trans r1);obtain⟨c4,k4⟩:=one (((Sr.block _ (by omega)).trans (Dx.block _ (by omega))).trans r2)))
  refine⟨rfl,.tuple #[.agg #[.int .u64 0,.bool false,.int .i64 0],.int .i64 (gA.qB f fn b)],by simp[results,f28,go_sem,c1,c2,c3,c4],rfl,?_⟩;refine((((aVE.setCell ?_ _).setCell ?_ _).setCell ?_ _).setCell ?_ _) <;> first |exact cBE _ |exact cOI _
 |false =>
  rw[if_neg (by decide)]
  gi_wp2_with (refine⟨trivial,?_⟩;first | (gi_at_call 71;refine(bDZ _ aGU).mono ?_;rintro e w3 ⟨rfl,Dx⟩;have aPH:Below w.heap.size w w3:=aGU.trans (Dx.mono (by omega))) | (gi_at_call 75;refine(bBE _ aPH).mono ?_;rintro e w4 ⟨rfl,Sr⟩;have bMC:=Dx.size;have aVE:Below w.heap.size w w4:=aPH.trans (Sr.mono (by omega));obtain⟨c1,c2,c3,k1,k2,k3⟩:=three (((Sr.block _ (by omega)).trans (Dx.block _ (by omega))).trans r1);obtain⟨c4,k4⟩:=one (((Sr.block _ (by omega)).trans (Dx.block _ (by omega))).trans r2)))
  refine⟨rfl,.tuple #[.agg #[.int .u64 0,.bool false,.int .i64 0],.int .i64 1],by simp[results,f28,go_sem,c1,c2,c3,c4],rfl,?_⟩;refine((((aVE.setCell ?_ _).setCell ?_ _).setCell ?_ _).setCell ?_ _) <;> first |exact cBE _ |exact cOI _
abbrev ptr(b o:Nat):Value:=.pointer (some ⟨b,o,none⟩)
structure aSS(fn x:Int)(g b1 o1 b2 o2 b3 o3:Nat)(W:World):Prop where
 c1:W.cell? ⟨b1,o1,none⟩=some (.func (.func g) #[] #[])
 c2:W.cell? ⟨b2,o2,none⟩=some (.int .i64 fn)
 c3:W.cell? ⟨b3,o3,none⟩=some (.int .u64 x)
theorem Ys{W:World}{b o:Nat}{v:Value}(h:W.cell? ⟨b,o,none⟩=some v):b<W.heap.size:=by
 obtain⟨ob,h1,_⟩:=cells_of_cell h;exact(Array.getElem?_eq_some_iff.1 h1).1
theorem aSS.rep{fn x:Int}{g b1 o1 b2 o2 b3 o3:Nat}{W:World}(h:aSS fn x g b1 o1 b2 o2 b3 o3 W):pM O0 W (.Vu 126 [.func (.func g) #[] #[],.int .i64 fn,.int .u64 x]) (.func (.func 126) #[] #[ptr b1 o1,ptr b2 o2,ptr b3 o3]):=by
 refine⟨[ptr b1 o1,ptr b2 o2,ptr b3 o3],rfl,rfl,fun i x p hx hp=>?_⟩
 match i with
 |0=>cases hx;cases hp;exact⟨rfl,b1,o1,rfl,Ys h.c1,id,h.c1⟩
 |1=>cases hx;cases hp;exact⟨rfl,b2,o2,rfl,Ys h.c2,id,h.c2⟩
 |2=>cases hx;cases hp;exact⟨rfl,b3,o3,rfl,Ys h.c3,id,h.c3⟩
 |i+3=>simp at hx
theorem bEX(f fn b:Int)(hb:0<=b/\b<18446744073709551616){w:World}(hG:GlobOk base.glob O0 w):Calls prog 73 #[.int .i64 f,.int .i64 fn,.int .u64 b] w fun e w'=>∃b1 o1 b2 o2 b3 o3,e=.returned (.agg #[.int .i64 f,.func (.func 126) #[] #[ptr b1 o1,ptr b2 o2,ptr b3 o3]])/\Below w.heap.size w w'/\aSS fn (fB.xV f b) (fB.gV fn) b1 o1 b2 o2 b3 o3 w':=by
 refine(Pd fB.ok (ds:=[Qg (.int .i64 f),Qg (.int .i64 fn),Qg (.int .u64 b)]) (vs:=[.int .i64 f,.int .i64 fn,.int .u64 b]) rfl hb hG rfl (fun i d v hd hv=>?_)).mono ?_
 ·match i with
  |0=>cases hd;cases hv;exact⟨rfl,rfl⟩
  |1=>cases hd;cases hv;exact⟨rfl,rfl⟩
  |2=>cases hd;cases hv;exact⟨rfl,rfl⟩
  |i+3=>simp at hd
 ·rintro e w' ⟨vI,rfl,Qn,g,aOT,-,aLD⟩
  match vI,aOT with
  | [v],_ =>
   have a1:mY _ w' (.agg [.sc (.int .i64 f),.Vu 126 [.func (.func (fB.gV fn)) #[] #[],.int .i64 fn,.int .u64 (fB.xV f b)]]) v:=aLD 0 _ v rfl rfl;obtain⟨arr,rfl,hl,hc⟩:=a1.later Ph;obtain⟨q1,q2,he⟩:∃q1 q2,arr.toList=[q1,q2]:=by
    match hh:arr.toList,hl with
    | [q1,q2],_=>exact⟨q1,q2,rfl⟩
   rw[he]at hc;have h0:=(hc 0 _ _ rfl rfl).1;obtain⟨ps,hv,So,Io⟩:=hc 1 _ _ rfl rfl
   match ps,So with
   | [p1,p2,p3],_ =>
    obtain⟨_,b1,o1,rfl,_,_,k1⟩:=Io 0 _ _ rfl rfl;obtain⟨_,b2,o2,rfl,_,_,k2⟩:=Io 1 _ _ rfl rfl;obtain⟨_,b3,o3,rfl,_,_,k3⟩:=Io 2 _ _ rfl rfl;refine⟨b1,o1,b2,o2,b3,o3,?_,Qn,k1,k2,k3⟩;have:arr=#[q1,q2]:=by rw[<-he]
    rw[this,h0,hv];rfl
theorem aVV(f fn x p:Int){g b1 o1 b2 o2 b3 o3:Nat}{w:World}(h:aSS fn x g b1 o1 b2 o2 b3 o3 w)(hp:(Aj.sp (f,g,fn,x) p).1)(hG:GlobOk base.glob O0 w):Calls prog 74 #[.agg #[.int .i64 f,.func (.func 126) #[] #[ptr b1 o1,ptr b2 o2,ptr b3 o3]],.int .i64 p] w fun e w'=>e=.returned (.tuple #[.int .u64 (Aj.dec f g fn x p).1,.bool (Aj.dec f g fn x p).2])/\Below w.heap.size w w':=by
 refine(Pd Aj.ok (ds:=[.agg [.sc (.int .i64 f),.Vu 126 [.func (.func g) #[] #[],.int .i64 fn,.int .u64 x]],Qg (.int .i64 p)]) (vs:=[.agg #[.int .i64 f,.func (.func 126) #[] #[ptr b1 o1,ptr b2 o2,ptr b3 o3]],.int .i64 p]) rfl hp hG rfl (fun i d v hd hv=>?_)).mono ?_
 ·match i with
  |0 =>
   cases hd;cases hv;refine⟨_,rfl,rfl,fun j s u hs hu=>?_⟩
   match j with
   |0=>cases hs;cases hu;exact⟨rfl,rfl⟩
   |1=>cases hs;cases hu;exact h.rep
   |j+2=>simp at hs
  |1=>cases hd;cases hv;exact⟨rfl,rfl⟩
  |i+2=>simp at hd
 ·rintro e w' ⟨vI,rfl,Qn,g',aOT,-,aLD⟩
  match vI,aOT with
  | [v1,v2],_ =>
   have a1:=aLD 0 _ v1 rfl rfl;have a2:=aLD 1 _ v2 rfl rfl;rw[a1.1,a2.1];exact⟨rfl,Qn⟩
set_option maxRecDepth 100000 in
set_option maxHeartbeats 4000000 in
theorem aTG (f fn b s l:Int) (hb:0<=b/\b<18446744073709551616) (hl:kD.Im s l=true) (he:gA.qB f fn b=0) (hs:(dA.Kg f fn b).2=true) {w:World} (hG:GlobOk base.glob O0 w):Calls prog 28 #[.int .i64 f,.int .i64 fn,.int .u64 b,.int .i64 s,.int .i64 l] w fun e w'=>e=.returned (.tuple #[.agg #[.int .u64 (dA.Kg f fn b).1,.bool true,.int .i64 0],.int .i64 0])/\Below w.heap.size w w':=by
 refine(callsIn_wide (n:=1)).1 ?_;refine callsIn_of_wp func28 rfl trivial ?_ rfl;simp only[Tryz.ntmps28,cCU,cEP,cEQ,cPZ,cQA,Array.replicate_succ,Array.replicate_zero,cQB,cQC,cFH,cCX];have bDZ:=bLX 0 hb he hG;have bBE:=bLW 0 hl hG;have bPF:=bRC 0 hb he hs hG;obtain⟨W2,bKJ,aGU,z2,r1,r2⟩:=opened w
 gi_wp2_with (refine⟨trivial,?_⟩;first
  | (gi_at_call 71;refine(bDZ _ aGU).mono ?_;rintro e w3 ⟨rfl,Dx⟩;have bVV:=Dx.size;have aPH:Below w.heap.size w w3:=aGU.trans (Dx.mono (by omega)))
  | (gi_at_call 75;refine(bBE _ aPH).mono ?_;rintro e w4 ⟨rfl,Sr⟩;have bMC:=Sr.size;have aVE:Below w.heap.size w w4:=aPH.trans (Sr.mono (by omega)))
  | (gi_at_call 72;refine(bPF _ aVE).mono ?_;rintro e w5 ⟨rfl,aVB⟩;have bVU:=aVB.size;have bKQ:Below w.heap.size w w5:=aVE.trans (aVB.mono (by omega));obtain⟨c1,c2,c3,k1,k2,k3⟩:=three ((((aVB.block _ (by omega)).trans (Sr.block _ (by omega))).trans (Dx.block _ (by omega))).trans r1);obtain⟨c4,k4⟩:=one ((((aVB.block _ (by omega)).trans (Sr.block _ (by omega))).trans (Dx.block _ (by omega))).trans r2)))
 refine⟨rfl,.tuple #[.agg #[.int .u64 (dA.Kg f fn b).1,.bool true,.int .i64 0],.int .i64 0],by simp[results,f28,go_sem,c1,c2,c3,c4],rfl,?_⟩;refine((((bKQ.setCell ?_ _).setCell ?_ _).setCell ?_ _).setCell ?_ _) <;> first |exact cBE _ |exact cOI _
def first(f fn b:Int):List Int->Option Int
 | []=>none
 |r :: rs=>bif (dA.zK f fn b r).2 then some r else first f fn b rs
def Rp(f fn b s l:Int):Int×Bool×Int:=match first f fn b (IvLadder.rungsF 17 s l)with
 |some r=>((dA.zK f fn b r).1,true,r)
 |none=>(0,false,0)
theorem Oq{f fn b:Int}:∀{rs:List Int},(∀r∈rs,(dA.zK f fn b r).2=false)->first f fn b rs=none
 | [],_=>rfl
 |r :: rs,h=>by unfold first;rw[h r (by simp),cond_false];exact Oq fun r hr=>h r (by simp[hr])
theorem Oo{f fn b r:Int}:∀{pre rs:List Int},(∀r∈pre,(dA.zK f fn b r).2=false)->(dA.zK f fn b r).2=true->first f fn b (pre ++ r :: rs)=some r
 | [],rs,_,h=>by show first f fn b (r :: rs)=_;unfold first;rw[h,cond_true]
 |p :: pre,rs,hp,h=>by
  show first f fn b (p :: (pre ++ r :: rs))=_
  unfold first
  rw[hp p (by simp),cond_false];exact Oo (fun r hr=>hp r (by simp[hr])) h
structure aBJ(n0:Nat)(x y z e:Value)(W:World):Prop where
 c1:W.cell? ⟨n0,0,none⟩=some x
 c2:W.cell? ⟨n0,1,none⟩=some y
 c3:W.cell? ⟨n0,2,none⟩=some z
 c4:W.cell? ⟨n0+1,0,none⟩=some e
 k1:W.frozen? ⟨n0,0,none⟩=false
 k2:W.frozen? ⟨n0,1,none⟩=false
 k3:W.frozen? ⟨n0,2,none⟩=false
 k4:W.frozen? ⟨n0+1,0,none⟩=false
theorem aBJ.kept{n0:Nat}{x y z e:Value}{W W':World}{row:Option Nat}(h:aBJ n0 x y z e W)(hg:W.grownBy W' row)(hr:∀r,row=some r->∃o:Obj,W.heap[r]?=some o/\o.isCells=false):aBJ n0 x y z e W' :=
 ⟨cell_kept h.c1 hg hr,cell_kept h.c2 hg hr,cell_kept h.c3 hg hr,cell_kept h.c4 hg hr,(frozen_kept h.c1 hg hr).trans h.k1,(frozen_kept h.c2 hg hr).trans h.k2,(frozen_kept h.c3 hg hr).trans h.k3,(frozen_kept h.c4 hg hr).trans h.k4⟩
theorem aBJ.below{n0:Nat}{x y z e:Value}{W W':World}(h:aBJ n0 x y z e W)(hb:Below W.heap.size W W'):aBJ n0 x y z e W':=h.kept (row:=none) ⟨hb.os,hb.tape,hb.output,hb.size,fun k hk _=>hb.block k hk⟩ (fun r e=>by cases e)
theorem aKV(W:World)(a c:Addr)(v:Value)(h:a≠c):(W.setCell a v).cell? c=W.cell? c:=by
 first |exact World.cell?_setCell_other W a v c h |exact World.cell?_setCell_other W a c v h
theorem aBJ.put{n0:Nat}{x y z e:Value}{W:World}(h:aBJ n0 x y z e W)(x' y' z' e':Value):aBJ n0 x' y' z' e' ((((W.setCell ⟨n0,0,none⟩ x').setCell ⟨n0,1,none⟩ y').setCell ⟨n0,2,none⟩ z').setCell ⟨n0+1,0,none⟩ e'):=by
 obtain⟨c1,c2,c3,c4,k1,k2,k3,k4⟩:=h;refine⟨?_,?_,?_,?_,by simp[k1],by simp[k2],by simp[k3],by simp[k4]⟩
 ·rw[aKV _ _ _ _ (by simp),aKV _ _ _ _ (by simp),aKV _ _ _ _ (by simp)];exact World.cell?_setCell_same' _ _ _ (by rw[c1];rfl)
 ·rw[aKV _ _ _ _ (by simp),aKV _ _ _ _ (by simp)];exact World.cell?_setCell_same' _ _ _ (by rw[aKV _ _ _ _ (by simp),c2];rfl)
 ·rw[aKV _ _ _ _ (by simp)];exact World.cell?_setCell_same' _ _ _ (by rw[aKV _ _ _ _ (by simp),aKV _ _ _ _ (by simp),c3];rfl)
 ·exact World.cell?_setCell_same' _ _ _ (by rw[aKV _ _ _ _ (by simp),aKV _ _ _ _ (by simp),aKV _ _ _ _ (by simp),c4];rfl)
theorem aBJ.out{n0:Nat}{x y z e:Value}{W:World}(h:aBJ n0 x y z e W)(tmps:Array Value)(h1:tmps[10]?=some (.pointer (some ⟨n0,0,none⟩)))(h2:tmps[11]?=some (.pointer (some ⟨n0+1,0,none⟩))):(results f28 tmps).run prog W=.ok (.tuple #[.agg #[x,y,z],e]) W:=by
 obtain⟨c1,c2,c3,c4,_⟩:=h;simp[results,f28,go_sem,c1,c2,c3,c4,Array.getD_eq_getD_getElem?,h1,h2]
theorem Hz{B n0:Nat}{A W:World}(h:Below B A W)(hB:B<=n0)(x y z e:Value):Below B A ((((W.setCell ⟨n0,0,none⟩ x).setCell ⟨n0,1,none⟩ y).setCell ⟨n0,2,none⟩ z).setCell ⟨n0+1,0,none⟩ e) :=
 (((h.setCell (p:=⟨n0,0,none⟩) hB _).setCell (p:=⟨n0,1,none⟩) hB _).setCell (p:=⟨n0,2,none⟩) hB _).setCell (p:=⟨n0+1,0,none⟩) (Nat.le_succ_of_le hB) _
theorem Sd(n0:Nat)(W:World)(x y z e:Value):KeepsOthers W ((((W.setCell ⟨n0,0,none⟩ x).setCell ⟨n0,1,none⟩ y).setCell ⟨n0,2,none⟩ z).setCell ⟨n0+1,0,none⟩ e) :=
 (((KeepsOthers.setCell _ _ _).trans (KeepsOthers.setCell _ _ _)).trans (KeepsOthers.setCell _ _ _)).trans (KeepsOthers.setCell _ _ _)
theorem aSS.kept{fn x:Int}{g b1 o1 b2 o2 b3 o3:Nat}{W W':World}{row:Option Nat}(h:aSS fn x g b1 o1 b2 o2 b3 o3 W)(hg:W.grownBy W' row)(hr:∀r,row=some r->∃o:Obj,W.heap[r]?=some o/\o.isCells=false):aSS fn x g b1 o1 b2 o2 b3 o3 W' :=
 ⟨cell_kept h.c1 hg hr,cell_kept h.c2 hg hr,cell_kept h.c3 hg hr⟩
set_option maxRecDepth 100000 in
set_option maxHeartbeats 8000000 in
theorem bBX (f fn b s l:Int) (hb:0<=b/\b<18446744073709551616) (hl:kD.Im s l=true) (he:gA.qB f fn b=0) (hs:(dA.Kg f fn b).2=false) {w:World} (hG:GlobOk base.glob O0 w):Calls prog 28 #[.int .i64 f,.int .i64 fn,.int .u64 b,.int .i64 s,.int .i64 l] w fun e w'=>e=.returned (.tuple #[.agg #[.int .u64 (Rp f fn b s l).1,.bool (Rp f fn b s l).2.1,.int .i64 (Rp f fn b s l).2.2],.int .i64 0])/\Below w.heap.size w w':=by
 refine(callsIn_wide (n:=3)).1 ?_;refine callsIn_of_wp_marks func28 rfl trivial ?_ rfl;simp only[Tryz.ntmps28,cCU,cEP,cEQ,cPZ,cQA,Array.replicate_succ,Array.replicate_zero,cQB,cQC,cFH,cCX];have bDZ:=bLX 2 hb he hG;have bBE:=bLW 2 hl hG;have bPF:=bRC 2 hb he hs hG;have bZT:∀w',Below w.heap.size w w'->CallsIn Fence.wide 2 prog 73 #[.int .i64 f,.int .i64 fn,.int .u64 b] w' fun e w2=>∃b1 o1 b2 o2 b3 o3,e=.returned (.agg #[.int .i64 f,.func (.func 126) #[] #[ptr b1 o1,ptr b2 o2,ptr b3 o3]])/\Below w'.heap.size w' w2/\aSS fn (fB.xV f b) (fB.gV fn) b1 o1 b2 o2 b3 o3 w2:=fun w' tR =>
  callsIn_wide.2 (bEX f fn b hb (wP hG tR))
 have aGK:∀(a:Addr) (W:World) (v:Value) (x:Fn) (y z:Array Value),W.cell? a=some v->W.frozen? a=false->(store a (.func x y z)).run prog W=.ok () (W.setCell a (.func x y z)):=fun a W v x y z h1 h2=>by
  rw[run_store _ _ _ _ _ rfl,h1,h2];rfl
 obtain⟨W2,bKJ,aGU,z2,r1,r2⟩:=opened w
 gi_wp2_with (refine⟨trivial,?_⟩;first
  | (gi_at_call 71;refine(bDZ _ aGU).mono ?_;rintro e w3 ⟨rfl,Dx⟩;have bVV:=Dx.size;have aPH:Below w.heap.size w w3:=aGU.trans (Dx.mono (by omega)))
  | (gi_at_call 75;refine(bBE _ aPH).mono ?_;rintro e w4 ⟨rfl,Sr⟩;have bMC:=Sr.size;have aVE:Below w.heap.size w w4:=aPH.trans (Sr.mono (by omega)))
  | (gi_at_call 72;refine(bPF _ aVE).mono ?_;rintro e w5 ⟨rfl,aVB⟩;have bVU:=aVB.size;have bKQ:Below w.heap.size w w5:=aVE.trans (aVB.mono (by omega)))
  | (gi_at_call 73;refine(bZT _ bKQ).mono ?_;rintro e w6 ⟨b1,o1,b2,o2,b3,o3,rfl,bKF,bAY⟩;have hz6:=bKF.size;have bZS:Below w.heap.size w w6:=bKQ.trans (bKF.mono (by omega));obtain⟨c1,c2,c3,k1,k2,k3⟩:=three (((((bKF.block _ (by omega)).trans (aVB.block _ (by omega))).trans (Sr.block _ (by omega))).trans (Dx.block _ (by omega))).trans r1);obtain⟨c4,k4⟩:=one (((((bKF.block _ (by omega)).trans (aVB.block _ (by omega))).trans (Sr.block _ (by omega))).trans (Dx.block _ (by omega))).trans r2))
  | (gi_at_call 70;refine(callsIn_wide.2 (IvLadder.make _ s l)).mono ?_;rintro e w7 ⟨rfl,rfl⟩))
 have aCV:1<=s/\s<=l/\l<=66000:=of_decide_eq_true hl;have aUQ:=Ziv.Yk hb he hs;have hf:=aUQ.fin.1;have bNC:∀x:IvLadder.aAQ,(Aj.sp (f,fB.gV fn,fn,fB.xV f b) x.1).1:=fun x=>by
  obtain⟨h1,h2⟩:=Ziv.xJ aUQ x.2;exact⟨h1,hf,h2.Aw⟩
 obtain⟨W7,bKI⟩:∃W7,w6.alloc (.cells #[.int .i64 f,.func (.func 126) #[] #[ptr b1 o1,ptr b2 o2,ptr b3 o3]] 129)=W7:=⟨_,rfl⟩;obtain⟨W8,bHR⟩:∃W8,(W7.alloc (.cells #[.int .i64 s] 3)).alloc (.cells #[.int .i64 l] 3)=W8:=⟨_,rfl⟩;rw[bKI,bHR];have z7:W7.heap.size=w6.heap.size+1:=by rw[<-bKI];simp
 have z8:W8.heap.size=w6.heap.size+3:=by rw[<-bHR];simp[z7]
 have bOM:Below w6.heap.size w6 W7:=by rw[<-bKI];exact(Below.refl _ _).alloc (cBE _) _
 have bHP:Below W7.heap.size W7 W8:=by rw[<-bHR];exact((Below.refl _ _).alloc (cBE _) _).alloc (by simp) _
 have aCY:Below w6.heap.size w6 W8:=bOM.trans (bHP.mono (by omega));have bTC:Below w.heap.size w W8:=bZS.trans (aCY.mono (by omega));have q7:W7.heap[w6.heap.size]?=some (.cells #[.int .i64 f,.func (.func 126) #[] #[ptr b1 o1,ptr b2 o2,ptr b3 o3]] 129 (0,0)):=by rw[<-bKI];exact World.alloc_heap_new _ _
 have q8:W8.heap[w6.heap.size]?=some (.cells #[.int .i64 f,.func (.func 126) #[] #[ptr b1 o1,ptr b2 o2,ptr b3 o3]] 129 (0,0)):=(bHP.block _ (by omega)).trans q7;have p1:W8.cell? ⟨w6.heap.size,0,none⟩=some (.int .i64 f):=by simp[World.cell?,q8]
 have p2:W8.cell? ⟨w6.heap.size,1,none⟩=some (.func (.func 126) #[] #[ptr b1 o1,ptr b2 o2,ptr b3 o3]):=by simp[World.cell?,q8]
 have s1:W8.cell? ⟨W7.heap.size,0,none⟩=some (.int .i64 s):=by rw[<-bHR,World.cell?_alloc_past _ _ _ (by simp)];simp
 have s2:W8.cell? ⟨W7.heap.size+1,0,none⟩=some (.int .i64 l):=by rw[<-bHR];simp[World.cell?_alloc_at]
 rw[z7]at s1 s2;have Ux:aBJ w.heap.size (.int .u64 0) (.bool false) (.int .i64 0) (.int .i64 0) W8:=aBJ.below ⟨c1,c2,c3,c4,k1,k2,k3,k4⟩ aCY;have bHK:aSS fn (fB.xV f b) (fB.gV fn) b1 o1 b2 o2 b3 o3 W8:=bAY.kept (row:=none) ⟨aCY.os,aCY.tape,aCY.output,aCY.size,fun k hk _=>aCY.block k hk⟩ (fun r e=>by cases e);refine wpIn_rangeFunc_ownF rfl (by omega) (gf:=124) (lb:=#[.pointer (some ⟨w6.heap.size+1,0,none⟩),.pointer (some ⟨w6.heap.size+1+1,0,none⟩)]) rfl trivial (enters_of func124 (by kernel_rfl) rfl)
  (IvLadder.stops Fence.wide (3-1) trivial trivial rfl (by omega) (w6.heap.size+1) W8.heap.size s l ⟨aCV.1,by omega⟩ aCV.2.2 aCV.2.1 W8 (fun w' aXN=>callsIn_wide.2 (callsIn_wide.1 (bBE w' (bTC.trans (aXN.mono (by omega)))))) (by omega) (cBE _) s1 s2) belowK_t (belowK_b (cBE _)) (Below.refl _ _) (fun _=>rfl)
  (fun pre W=>((∀r∈pre,(dA.zK f fn b r.1).2=false)/\aBJ w.heap.size (.int .u64 0) (.bool false) (.int .i64 0) (.int .i64 0) W/\W.cell? ⟨w6.heap.size,0,none⟩=some (.int .i64 f)/\W.cell? ⟨w6.heap.size,1,none⟩=some (.func (.func 126) #[] #[ptr b1 o1,ptr b2 o2,ptr b3 o3])/\aSS fn (fB.xV f b) (fB.gV fn) b1 o1 b2 o2 b3 o3 W/\W8.heap.size<=W.heap.size)/\Below w.heap.size w W)
  (fun c pre W=>(c=.ret/\∃(r:IvLadder.aAQ) (init:List IvLadder.aAQ),pre=init ++ [r]/\(∀r∈init,(dA.zK f fn b r.1).2=false)/\(dA.zK f fn b r.1).2=true/\aBJ w.heap.size (.int .u64 (dA.zK f fn b r.1).1) (.bool true) (.int .i64 r.1) (.int .i64 0) W)/\Below w.heap.size w W)
  (OwnFrom.and (Own.from (fun t A B row hs hg hr=>⟨hs.1,hs.2.1.kept hg hr,cell_kept hs.2.2.1 hg hr,cell_kept hs.2.2.2.1 hg hr,hs.2.2.2.2.1.kept hg hr,cCA hs.2.2.2.2.2 hg.size⟩) _) (ownFrom_below (cBE _) (by omega)))
  (fun c=>OwnFrom.and (Own.from (fun t A B row hs hg hr=>by obtain⟨h1,r,init,h2,h3,h4,h5⟩:=hs;exact⟨h1,r,init,h2,h3,h4,h5.kept hg hr⟩) _) (ownFrom_below (cBE _) (by omega)))
  ⟨⟨(fun r h=>by cases h),Ux,p1,p2,bHK,cBE _⟩,bTC⟩ ?a₁ ?assign ?body ?done ?stop
 case assign =>
  intro k x W K hK
  gi_wp2
  exact hK
 case body =>
  rintro k pre x W ⟨⟨bDL,hR,Ao,xA,hC,hZ⟩,hB⟩ _;have bZR:GlobOk base.glob O0 W:=wP hG hB;have bHX:=aVV f fn (fB.xV f b) x.1 hC (bNC x) bZR;have ez:Aj.dec f (fB.gV fn) fn (fB.xV f b) x.1=dA.zK f fn b x.1:=rfl;rw[ez]at bHX;have sQ:=hB.size;have Dw:=Ys hR.c1;have aCQ:=Ys hR.c4;cases hd:(dA.zK f fn b x.1).2 with
  |false =>
   rw[hd]at bHX
   gi_wp2
   refine⟨trivial,?_⟩
   gi_at_call 74
   refine(CallsIn.inRound k (callsIn_wide.2 bHX)).mono ?_;rintro e w9 ⟨rfl,Zg⟩
   gi_wp2
   have gr:W.grownBy w9 none:=⟨Zg.os,Zg.tape,Zg.output,Zg.size,fun k hk _=>Zg.block k hk⟩;have nr:∀r,(none:Option Nat)=some r->∃o:Obj,W.heap[r]?=some o/\o.isCells=false:=fun r e=>by cases e
   refine⟨KeepsOthers.of_grownBy gr (fun j o e=>by cases e),Zg.mono hZ,⟨fun r hr=>?_,hR.kept gr nr,cell_kept Ao gr nr,cell_kept xA gr nr,hC.kept gr nr,cCA hZ Zg.size⟩,hB.trans (Zg.mono (by omega))⟩;rcases List.mem_append.1 hr with hr |hr
   ·exact bDL r hr
   ·rw[List.mem_singleton.1 hr];exact hd
  |true =>
   rw[hd]at bHX
   gi_wp2_with (refine⟨trivial,?_⟩;gi_at_call 74;refine(CallsIn.inRound k (callsIn_wide.2 bHX)).mono ?_;rintro e w9 ⟨rfl,Zg⟩;obtain⟨c1,c2,c3,c4,k1,k2,k3,k4⟩:=hR.below Zg)
   have gr:W.grownBy w9 none:=⟨Zg.os,Zg.tape,Zg.output,Zg.size,fun k hk _=>Zg.block k hk⟩;exact⟨(KeepsOthers.of_grownBy gr (fun j o e=>by cases e)).trans (Sd _ _ _ _ _ _),⟨rfl,x,pre,rfl,bDL,hd,(aBJ.below hR Zg).put _ _ _ _⟩,Hz (hB.trans (Zg.mono (by omega))) (cBE _) _ _ _ _⟩
 case done =>
  rintro D ys W hD hS ⟨⟨bDL,hR,_⟩,hB⟩ hK;have bZG:=hR;obtain⟨c1,c2,c3,c4,k1,k2,k3,k4⟩:=bZG
  gi_wp2
  have bSW:=(Sd w.heap.size W (.int .u64 0) (.bool false) (.int .i64 0) (.int .i64 0)).same D _ hK rfl;refine⟨by simp,.inl ⟨_,_,rfl,run_takeDeferred bSW,?_⟩⟩;have bOT:=(hR.put (.int .u64 0) (.bool false) (.int .i64 0) (.int .i64 0)).kept (grownBy_putObj' _ D (.deferred none)) (fun r e=>by cases e;exact⟨_,bSW,rfl⟩);have en:Rp f fn b s l=(0,false,0):=by
   unfold Rp;rw[<-hS,Oq (fun r hr=>by obtain⟨x,hx,rfl⟩:=List.mem_map.1 hr;exact bDL x hx)]
  refine⟨_,bOT.out _ rfl rfl,?_⟩;rw[en];exact⟨rfl,(Hz hB (cBE _) _ _ _ _).grown (grownBy_putObj' _ D (.deferred none)) (Hz hB (cBE _) _ _ _ _).size (fun k e=>by cases e;omega)⟩
 case stop =>
  rintro D c pre W hD hS ⟨⟨rfl,r,init,rfl,bDL,hd,hR⟩,hB⟩ hK
  gi_wp2
  refine⟨by simp,.inl ⟨_,_,rfl,run_takeDeferred hK,?_⟩⟩;have bOT:=hR.kept (grownBy_putObj' _ D (.deferred none)) (fun r e=>by cases e;exact⟨_,hK,rfl⟩);have en:Rp f fn b s l=((dA.zK f fn b r.1).1,true,r.1):=by
   obtain⟨rest,hr⟩:=hS;unfold Rp;rw[<-hr,List.map_append,List.map_cons,List.map_nil,cCZ,cCX,cFH,Oo (fun r hr=>by obtain⟨x,hx,rfl⟩:=List.mem_map.1 hr;exact bDL x hx) hd]
  refine⟨_,bOT.out _ rfl rfl,?_⟩;rw[en];exact⟨rfl,hB.grown (grownBy_putObj' _ D (.deferred none)) hB.size (fun k e=>by cases e;omega)⟩
def Rb(f fn b s l:Int):Int:=if kD.Im s l then gA.qB f fn b else 1
def Gx(f fn b s l:Int):Int×Bool×Int:=if Rb f fn b s l≠0 then(0,false,0)else bif (dA.Kg f fn b).2 then((dA.Kg f fn b).1,true,0)else Rp f fn b s l
def sp(f fn b s l:Int):Prop×List D:=(0<=b/\b<18446744073709551616,[.agg [.sc (.int .u64 (Gx f fn b s l).1),.sc (.bool (Gx f fn b s l).2.1),.sc (.int .i64 (Gx f fn b s l).2.2)],.s (.sc (.int .i64 (Rb f fn b s l)))])
def aI:dJ:=orc5 (pN .i64) (pN .i64) (pN .u64) (pN .i64) (pN .i64) sp
theorem ok:OK 28 aI:=aTV (sR func28 rfl rfl) fun f fn b s l hb=>by
 have hb:0<=b/\b<18446744073709551616:=hb;refine Zu (xs:=[.int .i64 f,.int .i64 fn,.int .u64 b,.int .i64 s,.int .i64 l]) (ys:=[.agg #[.int .u64 (Gx f fn b s l).1,.bool (Gx f fn b s l).2.1,.int .i64 (Gx f fn b s l).2.2],.int .i64 (Rb f fn b s l)]) (fun w hG=>?_) rfl (fun i d v hd hv=>?_)
 ·unfold Gx
  by_cases he:Rb f fn b s l≠0
  ·rw[if_pos he];exact bad f fn b s l hb he hG
  ·rw[if_neg he];have e0:Rb f fn b s l=0:=Classical.not_not.1 he;rw[e0];unfold Rb at e0;cases hl:kD.Im s l with
   |false=>rw[hl]at e0;cases e0
   |true =>
    rw[hl,if_pos rfl]at e0;cases hs:(dA.Kg f fn b).2 with
    |true=>exact aTG f fn b s l hb hl e0 hs hG
    |false=>exact bBX f fn b s l hb hl e0 hs hG
 ·match i with
  |0=>cases hd;cases hv;exact⟨rfl,fun Y w=>bPY rfl rfl rfl⟩
  |1=>cases hd;cases hv;exact⟨rfl,fun Y w=>⟨rfl,rfl⟩⟩
  |i+2=>cases hd
end IvClimb
namespace kO
def E:=mE [(28,IvClimb.aI)] 23 [15] [] []
def aE:=bd f26
theorem aT:Nk E aE:=nk
theorem start a b c:aF E f26 aE [D.s (sc (int i64 a)),D.s (sc (int i64 b)),D.s (sc (int u64 c))]=letI A:=IvClimb.Gx a b c 128 65536;aM (0<=c/\c<18446744073709551616) (some [D.s (sc (int u64 A.fst)),D.s (sc (bool A.snd.fst)),D.s (sc (int i64 (IvClimb.Rb a b c 128 65536)))]):=eJ aT
def Bz(f fn b:Int):Int×Bool×Int:=IvClimb.Gx f fn b 128 65536
def sp(f fn b:Int):Prop×List D:=(0<=b/\b<18446744073709551616,[.s (.sc (.int .u64 (Bz f fn b).1)),.s (.sc (.bool (Bz f fn b).2.1)),.s (.sc (.int .i64 (gA.qB f fn b)))])
theorem spec:oO E f26 aE (pN .i64) (pN .i64) (pN .u64) sp:=by
 intro f fn b h;refine(start f fn b).trans ((gP h).trans ?_);have e:IvClimb.Rb f fn b 128 65536=gA.qB f fn b:=if_pos rfl;rw[e];rfl
def aI:dJ:=orc3 (pN .i64) (pN .i64) (pN .u64) sp
theorem ok:OK 26 aI:=(eB E aE (aA IvClimb.ok aC) func26).xX rfl spec
end kO
end W
namespace W.Ziv
open Go AI M W W.aAS
theorem mP{f:Int}(hf:f=32\/f=64){p q:Int×Int}(h0:0<p.1)(h:R.qz p<=R.qz q):gG.iN f p<=gG.iN f q:=by
 have q0:0<q.1:=jI.1 (by have:=jI.2 h0;grind);have m:=aIL hf h;have b1:=Fv hf p;have b2:=Fv hf q;rw[oK h0,oK q0]at *;unfold ord at m;rw[aQ,aQ]at m;exact m
def Jn(f Q:Int)(V:Rat):Prop:=∃a c:Int×Int,0<a.1/\R.qz a<=V/\V<=R.qz c/\gG.iN f a=Q/\gG.iN f c=Q
def aST(f Q:Int)(V:Rat):Prop:=Jn f Q V\/Jn f (Q-sg f) (-V)
theorem Jn.pos{f Q:Int}{V:Rat}(h:Jn f Q V):0<V:=by
 obtain⟨a,c,h0,h1,_⟩:=h;have:=jI.2 h0;grind
theorem Jn.bd{f Q:Int}{V:Rat}(hf:f=32\/f=64)(h:Jn f Q V):0<=Q/\Q<=kJ.oD (Ch.Eb f)/\kJ.oD (Ch.Eb f)<sg f:=by
 obtain⟨a,c,h0,_,_,rfl,_⟩:=h;rw[oK h0];exact Fv hf a
theorem Jn.eq{f Q Q':Int}{V:Rat}(hf:f=32\/f=64)(h:Jn f Q V)(h':Jn f Q' V):Q=Q':=by
 obtain⟨a,c,h0,h1,h2,rfl,e1⟩:=h;obtain⟨a',c',bPL,aBD,aVF,rfl,e2⟩:=h';have m1:=mP hf h0 (cGJ h1 aVF);have m2:=mP hf bPL (cGJ aBD h2);omega
theorem aST.eq{f Q Q':Int}{V:Rat}(hf:f=32\/f=64)(h:aST f Q V)(h':aST f Q' V):Q=Q':=by
 rcases h with h |h <;> rcases h' with h' |h'
 ·exact h.eq hf h'
 ·have:=h.pos;have:=h'.pos;grind
 ·have:=h.pos;have:=h'.pos;grind
 ·have:=h.eq hf h';omega
def flip(f b:Int):Int:=if b<sg f then b+sg f else b-sg f
theorem aST.bd{f Q:Int}{V:Rat}(hf:f=32\/f=64)(h:aST f Q V):0<=Q/\Q<2*sg f:=by
 rcases h with h |h <;> have:=h.bd hf <;> omega
theorem bCF{f fn b p Q:Int}(h:Ns f fn b)(hp:1<=p/\p<=66000)(hd:dA.zK f fn b p=(Q,true)):aST f Q (vZ fn (fB.xV f b)):=by
 have hf:=h.fin.1;obtain⟨_,hE⟩:=xJ h hp;have Xw:=hE.Xw hp.1;obtain⟨_,_,lo,hi,_,v0⟩:=hE;have hd:pW.aLJ f (kQ.enc (fB.gV fn) fn (fB.xV f b) p)=(Q,true):=hd;generalize kQ.enc (fB.gV fn) fn (fB.xV f b) p=s at *;generalize vZ fn (fB.xV f b)=V at *;unfold pW.aLJ at hd
 by_cases e:gG.iN f s.1=gG.iN f s.2
 ·rw[if_pos e]at hd;have hQ:gG.iN f s.1=Q:=congrArg Prod.fst hd
  by_cases hV:0<V
  ·exact .inl ⟨s.1,s.2,jI.1 (Xw.1 hV),lo,hi,hQ,by omega⟩
  ·have hn:V<0:=by grind
   have s2:=yX.1 (Xw.2 hn);have s1:s.1.1<0:=yX.1 (by have:=Xw.2 hn;grind);have n1:=yD hf s1;have n2:=yD hf s2;refine .inr ⟨(-s.2.1,s.2.2),(-s.1.1,s.1.2),by show 0 < -s.2.1;omega,?_,?_,?_,?_⟩
   ·rw[pD];grind
   ·rw[pD];grind
   ·rw[oK (by show 0 < -s.2.1;omega)];have:sz f (-s.2.1,s.2.2)=sz f s.2:=by unfold sz;rw[cHY]
    omega
   ·rw[oK (by show 0 < -s.1.1;omega)];have:sz f (-s.1.1,s.1.2)=sz f s.1:=by unfold sz;rw[cHY]
    omega
 ·rw[if_neg e]at hd;cases congrArg Prod.snd hd
theorem Xz:∀{k:Nat} {p l r:Int},1<=p->r∈IvLadder.rungsF k p l->1<=r/\r<=l
 |0,_,_,_,_,h=>by cases h
 |k+1,p,l,r,hp,h=>by
  unfold IvLadder.rungsF at h
  by_cases c:p<=l
  ·rw[if_pos c]at h;cases h with
   |head=>exact⟨hp,c⟩
   |tail _ h=>exact Xz (by omega) h
  ·rw[if_neg c]at h;cases h
theorem Sw{f fn b r:Int}:∀{rs:List Int},IvClimb.first f fn b rs=some r->r∈rs/\(dA.zK f fn b r).2=true
 | [],h=>by cases h
 |x :: rs,h=>by
  unfold IvClimb.first at h
  cases c:(dA.zK f fn b x).2 with
  |true=>rw[c,cond_true]at h;cases h;exact⟨.head _,c⟩
  |false =>
   rw[c,cond_false]at h;obtain⟨h1,h2⟩:=Sw h;exact⟨.tail _ h1,h2⟩
theorem Xg{f fn b:Int}(hb:0<=b/\b<18446744073709551616)(he:gA.qB f fn b=0)(hs:(dA.Kg f fn b).2=false)(hv:(kO.Bz f fn b).2.1=true):aST f (kO.Bz f fn b).1 (vZ fn (fB.xV f b)):=by
 have hn:=Yk hb he hs;have el:kD.Im 128 65536=true:=rfl;unfold kO.Bz IvClimb.Gx IvClimb.Rb at *;rw[el,if_pos rfl,he,if_neg (by decide),hs,cond_false]at *;unfold IvClimb.Rp at *;cases hr:IvClimb.first f fn b (IvLadder.rungsF 17 128 65536)with
 |none=>rw[hr]at hv;cases hv
 |some r =>
  obtain⟨h1,h2⟩:=Sw hr;obtain⟨h3,h4⟩:=Xz (by decide) h1;refine bCF hn (p:=r) ⟨h3,by omega⟩ ?_;show _=((dA.zK f fn b r).1,true);rw[<-h2]
end W.Ziv
namespace W.Ziv
open Go AI M W W.aAS
theorem aVL{f b:Int}(h:Fin f b):Fin f (flip f b)/\bQ.iK f (flip f b)=(-(bQ.iK f b).1,(bQ.iK f b).2):=by
 obtain⟨hf,hb,h1,h2⟩:=h;obtain⟨e1,e2⟩:=Mv hf;have hs:0<sg f:=by unfold sg;split <;> omega
 have r:0<=flip f b/\flip f b<2*sg f:=by unfold flip;split <;> omega
 have m:flip f b%sg f=b%sg f:=by
  rw[Uo r,Uo hb];unfold flip
  by_cases c:b<sg f
  ·rw[if_pos c,if_pos c,aO];omega
  ·rw[if_neg c,if_neg c,aQ]
 refine⟨⟨hf,r,by rw[m];exact h1,by rw[m];exact h2⟩,?_⟩;refine aAR.aNP (by rw[e1];exact m) ?_;rw[e1];unfold flip
 by_cases c:b<sg f
 ·rw[if_pos c,decide_eq_true (by omega),decide_eq_false (by omega)];rfl
 ·rw[if_neg c,decide_eq_false (by omega),decide_eq_true (by omega)];rfl
theorem Jn.neg{f P:Int}{V:Rat}(h:Jn f P V):aST f (P+sg f) (-V):=.inr (by rw[Int.add_sub_cancel,show - -V=V by grind];exact h)
theorem aNI{f b:Int}(hf:f=32\/f=64)(hb:0<=b/\b<2*sg f):cD.eZ f b=true:=by
 unfold cD.eZ;rcases hf with rfl |rfl
 ·exact decide_eq_true (show b<4294967296 by have:sg 32=2147483648:=rfl;omega)
 ·rfl
theorem bBN{f fn b:Int}(h:Ns f fn b):gA.qB f fn b=0:=by
 obtain⟨⟨hf,hb,_⟩,h1,h6,_⟩:=h;unfold gA.qB;rw[aO,aO];have hp:cD.eZ f b=true:=aNI hf hb;unfold pO.Ra lM.Am;rw[decide_eq_true hf,hp];rfl
theorem aYV{f fn b:Int}(h:Ns f fn b):(dA.Kg f fn b).2=false:=by
 obtain⟨⟨hf,hb,h1,h2⟩,f1,f6,ex⟩:=h;have hp:cD.eZ f b=true:=aNI hf hb;obtain⟨e1,e2⟩:=Mv hf;have tR:0<=b/\b<18446744073709551616:=by have:2*sg f<=18446744073709551616:=by { unfold sg;split <;> omega };omega
 have hc:=(Vt hf tR hp).2;rw[aO,if_pos h2]at hc;have c12:jW.xT f b=1\/jW.xT f b=2:=by
  split at hc
  ·exact .inl hc
  ·exact .inr hc
 unfold dA.Kg lW.Mp;rw[aO,aO]
 by_cases c4:4<=fn
 ·rw[if_pos c4,aAR.aDF hf ⟨c4,f6⟩ hp (by rw[e1];omega) (by rw[e1,e2];exact h2),ex c4];rfl
 ·rw[if_neg c4,aO]
end W.Ziv
namespace W
open Go AI M
namespace jQ
def E:=mE [(83,wY.aI),(52,Ch.aI),(84,lM.aI),(85,kJ.aI),(53,oX.aI),(12,aZ.aI),(15,gG.aI)] 46 [22,31,36,43] [] []
def aE:=bd f32
theorem aT:Nk E aE:=nk
theorem start a:aF E f32 aE [D.s (sc (int u64 a))]=letI C:=a/9223372036854775808==(1:Int);letI B:=sc (int i64 0);letI A:=bif cD.eZ 64 a&&cE.jD 64 a then aR (aZ.kA 64 a) (aZ.lG 64 a)else((0:Int),(0:Int));aM (((64:Int)=(32:Int)\/(64:Int)=(64:Int))/\0<=a/\a<18446744073709551616) (aD (bif cD.eZ 64 a then fF.fW (aH.fD 64) (a%9223372036854775808)else(0:Int)) fun b=>aM True (aB (b==4) (aM True (some [D.s (sc (int u64 2143289345)),D.s B])) (aB (b==3) (aM (kJ.vB ((24:Int),(-149:Int),(31:Int))) (aM (kJ.vB ((24:Int),(-149:Int),(31:Int))/\(0:Int)<=(2139095040:Int)/\(2139095040:Int)<=(2139095040:Int)) (aD (oX.aSG ((24:Int),(-149:Int),(31:Int)) C 2139095040) fun c=>some [D.s (sc (int u64 c)),D.s B]))) (aB (b==0) (aM (kJ.vB ((24:Int),(-149:Int),(31:Int))/\(0:Int)<=(0:Int)/\(0:Int)<=(2139095040:Int)) (aD (oX.aSG ((24:Int),(-149:Int),(31:Int)) C 0) fun d=>some [D.s (sc (int u64 d)),D.s B])) (aM (((64:Int)=(32:Int)\/(64:Int)=(64:Int))/\0<=a/\a<18446744073709551616) (aD (isNeg A.fst) fun e=>aD (M6.dg A.fst.natAbs) fun f=>aD A.snd fun g=>aM (((32:Int)=(32:Int)\/(32:Int)=(64:Int))/\aU (e,f,g)) (aD (gG.iN 32 (dv (e,f,g))) fun h=>some [D.s (sc (int u64 h)),D.s B]))))))):=eJ aT
def qR(a:Int):Int×Int:=aR (aZ.kA 64 a) (aZ.lG 64 a)
def xD(a:Int):Int:=if 9218868437227405312<a%9223372036854775808 then 2143289345 else if a%9223372036854775808=9218868437227405312 then oX.aSG (24,-149,31) (a/9223372036854775808==1) 2139095040 else if a%9223372036854775808=0 then oX.aSG (24,-149,31) (a/9223372036854775808==1) 0 else gG.iN 32 (qR a)
def sp(a:Int):Prop×List D:=(0<=a/\a<18446744073709551616,[.s (.sc (.int .u64 (xD a))),.s (.sc (.int .i64 0))])
theorem spec:iU E f32 aE (pN .u64) sp:=by
 rintro a ⟨h0,h1⟩;refine(start a).trans ?_;have hp:cD.eZ 64 a=true:=rfl;simp only[aG];unfold sp xD
 try dsimp only
 have hc:(bif cD.eZ 64 a then fF.fW (aH.fD 64) (a%9223372036854775808)else 0)=if a%9223372036854775808=0 then 0 else if a%9223372036854775808<4503599627370496 then 1 else if a%9223372036854775808<9218868437227405312 then 2 else if a%9223372036854775808=9218868437227405312 then 3 else 4:=by rw[hp];rfl
 have qA:cE.jD 64 a=decide (a%9223372036854775808<9218868437227405312):=rfl;have two:kJ.vB (24,-149,31):=.inl rfl;generalize hK:(bif cD.eZ 64 a then fF.fW (aH.fD 64) (a%9223372036854775808)else 0)=K at *;rw[gP ⟨.inr trivial,h0,h1⟩,gP trivial,hp,cEG]
 by_cases c1:9218868437227405312<a%9223372036854775808
 ·have hk:K=4:=by rw[hc,aO,aO,aO,aO]
  rw[if_pos c1,hk,bI rfl,gP trivial]
 ·rw[if_neg c1]
  by_cases c2:a%9223372036854775808=9218868437227405312
  ·have hk:K=3:=by rw[hc,aO,aO,aO,if_pos c2]
   rw[if_pos c2,hk,bA (by decide),bI rfl,gP two,gP ⟨two,by omega,by omega⟩]
  ·rw[if_neg c2]
   by_cases c3:a%9223372036854775808=0
   ·have hk:K=0:=by rw[hc,if_pos c3]
    rw[if_pos c3,hk,bA (by decide),bA (by decide),bI rfl,gP ⟨two,by omega,by omega⟩]
   ·rw[if_neg c3];have hk:K≠4/\K≠3/\K≠0:=by
     rw[if_neg c3]at hc;rcases(show a%9223372036854775808<4503599627370496\/4503599627370496<=a%9223372036854775808 by omega)with h |h
     ·rw[if_pos h]at hc;omega
     ·rw[aO,aQ]at hc;omega
    have hf:cE.jD 64 a=true:=by rw[qA];exact decide_eq_true (by omega)
    rw[bA hk.1,bA hk.2.1,bA hk.2.2,gP ⟨.inr trivial,h0,h1⟩,hf,cond_true];have hn:=(dU.aCD h0 hf).1;have e:dU.qR a=aR (aZ.kA 64 a) (aZ.lG 64 a):=rfl;rw[e]at hn;rw[gP ⟨.inl trivial,dV hn⟩,dY];rfl
def aI:dJ:=orc1 (pN .u64) sp
theorem ok:OK 32 aI:=(eB E aE (aA wY.ok (aA Ch.ok (aA lM.ok (aA kJ.ok (aA oX.ok (aA aZ.ok (aA gG.ok aC))))))) func32).oS rfl spec
end jQ
end W
namespace W.Ziv
open Go AI M W W.aAS
def n32(t:Int):Int:=if t=0 then 0 else if t<9218868437227405312 then gG.iN 32 (bQ.iK 64 t)else 2139095040
theorem Sx{t:Int}(h:0<t/\t<9218868437227405312):Fin 64 t/\0<(bQ.iK 64 t).1/\gG.iN 64 (bQ.iK 64 t)=t:=by
 have Mx:sg 64=9223372036854775808:=rfl;have m:t%sg 64=t:=by rw[Mx];omega
 have hF:Fin 64 t:=⟨.inr rfl,by omega,by omega,by show t%sg 64<9218868437227405312;omega⟩;refine⟨hF,?_,aIK hF⟩;have o:=aAR.aGC (f:=64) (.inr rfl) (show 0<=t by omega) (by show 0<t%sg 64;omega);have n:=mt (Ul hF).1 (by omega);omega
theorem Ih{t:Int}(h:0<=t):0<=n32 t/\n32 t<=2139095040:=by
 unfold n32;split
 ·omega
 ·split
  ·obtain⟨_,h1,_⟩:=Sx (t:=t) (by omega);rw[oK h1];have:=Fv (f:=32) (.inl rfl) (bQ.iK 64 t);exact⟨this.1,this.2.1⟩
  ·omega
theorem Yq{t u:Int}(h:0<=t)(h':t<u):n32 t<=n32 u:=by
 have b1:=Ih h;have b2:=Ih (show 0<=u by omega)
 by_cases c:t=0
 ·rw[show n32 t=0 by unfold n32;rw[if_pos c]];omega
 ·by_cases c2:u<9218868437227405312
  ·obtain⟨_,t1,t2⟩:=Sx (t:=t) (by omega);obtain⟨_,u1,u2⟩:=Sx (t:=u) (by omega);unfold n32;rw[if_neg c,aQ,aO,if_pos c2];refine mP (.inl rfl) t1 (Classical.byContradiction fun hn=>?_);have:=mP (f:=64) (.inr rfl) u1 (show R.qz (bQ.iK 64 u)<=R.qz (bQ.iK 64 t) by grind);omega
  ·rw[show n32 u=2139095040 by unfold n32;rw[aO,if_neg c2]];omega
theorem Lp{t:Int}(h:0<=t/\t<=9218868437227405312):jQ.xD t=n32 t:=by
 unfold jQ.xD n32;have m:t%9223372036854775808=t:=by omega
 have d:(t/9223372036854775808==1)=false:=by rw[beq_eq_false_iff_ne];omega
 rw[m,d,aO]
 by_cases c:t=9218868437227405312
 ·rw[if_pos c,aO,aO];rfl
 ·rw[if_neg c]
  by_cases c0:t=0
  ·rw[if_pos c0,if_pos c0];rfl
  ·rw[if_neg c0,if_neg c0,aQ];rfl
theorem Lq{t:Int}(h:0<=t/\t<=9218868437227405312):jQ.xD (t+9223372036854775808)=n32 t+2147483648:=by
 unfold jQ.xD n32;have m:(t+9223372036854775808)%9223372036854775808=t:=by omega
 have d:((t+9223372036854775808)/9223372036854775808==1)=true:=by rw[beq_iff_eq];omega
 rw[m,d,aO]
 by_cases c:t=9218868437227405312
 ·rw[if_pos c,aO,aO];rfl
 ·rw[if_neg c]
  by_cases c0:t=0
  ·rw[if_pos c0,if_pos c0];rfl
  ·rw[if_neg c0,if_neg c0,aQ];obtain⟨t0,t1,t2⟩:=Sx (t:=t) (by omega);have Mx:sg 64=9223372036854775808:=rfl;have Ds:sg 32=2147483648:=rfl;have o:=(aVL t0).2;unfold flip at o;rw[aQ,Mx]at o;show gG.iN 32 (bQ.iK 64 (t+9223372036854775808))=_;have b:=Fv (f:=32) (.inl rfl) (bQ.iK 64 t);rw[o,aIM (.inl rfl) (by omega),oK t1,aQ,Ds]
theorem Lr{t:Int}(h:9218868437227405312<t%9223372036854775808):jQ.xD t=2143289345:=if_pos h
theorem Xp{X Y:Int}{V:Rat}(h:Jn 64 X V)(h':Jn 32 Y V)(h1:1<=X)(h2:X<9218868437227405312)(e:n32 (X-1)=n32 (X+1)):n32 X=Y:=by
 have bY:=h'.bd (.inl rfl);have hI:kJ.oD (Ch.Eb 32)=2139095040:=rfl;obtain⟨a,c,a0,a1,c1,rfl,e1⟩:=h;obtain⟨a',c',bTR,cAW,cAR,rfl,bTL⟩:=h';generalize hX:gG.iN 64 a=X at *;have lo:n32 (X-1)<=gG.iN 32 a':=by
  by_cases c:X-1=0
  ·rw[show n32 (X-1)=0 by unfold n32;rw[if_pos c]];omega
  ·obtain⟨_,t1,t2⟩:=Sx (t:=X-1) (by omega);have hV:R.qz (bQ.iK 64 (X-1))<=V:=by
    refine Classical.byContradiction fun hn=>?_
    have:=mP (f:=64) (.inr rfl) a0 (show R.qz a<=R.qz (bQ.iK 64 (X-1)) by grind);omega
   have:=mP (f:=32) (.inl rfl) t1 (cGJ hV cAR);unfold n32;rw[if_neg c,aQ];omega
 have hi:gG.iN 32 a'<=n32 (X+1):=by
  by_cases c:X+1<9218868437227405312
  ·obtain⟨_,t1,t2⟩:=Sx (t:=X+1) (by omega);have c0:0<(c':Int×Int).1:=jI.1 (by have:=jI.2 bTR;grind);have hV:V<=R.qz (bQ.iK 64 (X+1)):=by
    refine Classical.byContradiction fun hn=>?_
    have:=mP (f:=64) (.inr rfl) t1 (show R.qz (bQ.iK 64 (X+1))<=R.qz _ from cGJ (show R.qz (bQ.iK 64 (X+1))<=V by grind) c1);omega
   have:=mP (f:=32) (.inl rfl) bTR (cGJ cAW hV);unfold n32;rw[aO,aQ];omega
  ·rw[show n32 (X+1)=2139095040 by unfold n32;rw[aO,if_neg c]];omega
 have m1:=Yq (show 0<=X-1 by omega) (show X-1<X by omega);have m2:=Yq (show 0<=X by omega) (show X<X+1 by omega);omega
theorem aCG{X Y:Int}{V:Rat}(h:aST 64 X V)(h':aST 32 Y V)(ne:jQ.xD (u64.wrap (X-1))=jQ.xD (u64.wrap (X+1))):jQ.xD X=Y:=by
 have Mx:sg 64=9223372036854775808:=rfl;have Ds:sg 32=2147483648:=rfl;have hI:kJ.oD (Ch.Eb 64)=9218868437227405312:=rfl;rcases h with h |h <;> rcases h' with h' |h'
 ·have b:=h.bd (.inr rfl)
  by_cases c0:X=0
  ·subst c0;have e1:jQ.xD (u64.wrap (0-1))=2143289345:=Lr (by decide);have e2:jQ.xD (u64.wrap (0+1))=n32 1:=Lp (t:=1) (by decide);have:=Ih (t:=1) (by decide);omega
  ·rw[wrap_u64,wrap_u64,Lp (by omega)]at ne
   by_cases c1:X=9218868437227405312
   ·subst c1;rw[Lr (by decide)]at ne;have:=Ih (t:=9218868437227405312-1) (by decide);omega
   ·rw[Lp (by omega)]at ne;rw[Lp (by omega)];exact Xp h h' (by omega) (by omega) ne
 ·have:=h.pos;have:=h'.pos;grind
 ·have:=h.pos;have:=h'.pos;grind
 ·have b:=h.bd (.inr rfl);obtain⟨t,rfl⟩:∃t,X=t+9223372036854775808:=⟨X-9223372036854775808,by omega⟩;rw[show t+9223372036854775808-sg 64=t by omega]at h b;rw[wrap_u64,wrap_u64]at ne
  by_cases c0:t=0
  ·subst c0;have e1:jQ.xD (0+9223372036854775808-1)=2143289345:=Lr (by decide);have e2:jQ.xD (0+9223372036854775808+1)=n32 1+2147483648:=Lq (t:=1) (by decide);have:=Ih (t:=1) (by decide);omega
  ·have e1:jQ.xD (t+9223372036854775808-1)=n32 (t-1)+2147483648:=by
    rw[show t+9223372036854775808-1=t-1+9223372036854775808 by omega,Lq (by omega)]
   by_cases c1:t=9218868437227405312
   ·subst c1;have e2:jQ.xD (9218868437227405312+9223372036854775808+1)=2143289345:=Lr (by decide);have:=Ih (t:=9218868437227405312-1) (by decide);omega
   ·have e2:jQ.xD (t+9223372036854775808+1)=n32 (t+1)+2147483648:=by
     rw[show t+9223372036854775808+1=t+1+9223372036854775808 by omega,Lq (by omega)]
    rw[Lq (by omega)];have:=Xp h h' (by omega) (by omega) (by omega);omega
end W.Ziv
namespace W.Ziv
open Go AI M W W.aAS
def sI(u W:Nat):Nat->Int
 |0=>0
 |n+1=>sI u W n+(if n%4=1 then(R.sq u W n:Int)else if n%4=3 then -(R.sq u W n:Int)else 0)
def cI(u W:Nat):Nat->Int
 |0=>0
 |n+1=>cI u W n+(if n%4=0 then(R.sq u W n:Int)else if n%4=2 then -(R.sq u W n:Int)else 0)
theorem aWY(u W:Nat):∀n,((sI u W n:Int):Rat)=R.sum (fun k=>R.ss k*(R.sq u W k:Rat)) n
 |0=>by simp[sI,R.sum]
 |n+1=>by
  rw[sI,R.dX,cOG,aWY u W n];unfold R.ss;split
  ·rw[cQE,cMQ]
  ·split
   ·rw[cOF,cMQ];grind
   ·rw[cQD];rfl
theorem aYF(u W:Nat):∀n,((cI u W n:Int):Rat)=R.sum (fun k=>R.cc k*(R.sq u W k:Rat)) n
 |0=>by simp[cI,R.sum]
 |n+1=>by
  rw[cI,R.dX,cOG,aYF u W n];unfold R.cc;split
  ·rw[cQE,cMQ]
  ·split
   ·rw[cOF,cMQ];grind
   ·rw[cQD];rfl
def wK:Nat:=1208925819614629174706176
theorem aYZ:R.ab (((1017275999990815458903788:Nat):Rat)-(wK:Rat)*R.sn 1)<=680/\R.ab (((653185407961314874212932:Nat):Rat)-(wK:Rat)*R.cs 1)<=680:=by
 have e1:sI (2^79) (2^80) 81=((579589912201271152073009:Nat):Int):=by decide +kernel
 have e2:cI (2^79) (2^80) 81=((1060932217912824869797341:Nat):Int):=by decide +kernel
 have h1:=aWY (2^79) (2^80) 81;have h2:=aYF (2^79) (2^80) 81;rw[e1,cMQ]at h1;rw[e2,cMQ]at h2;have m:((2^79:Nat):Rat)<((2^79:Nat):Rat)+1:=by grind
 have b:=R.aHO (T:=1) (w1:=79) (h:=1) (u:=2^79) (by grind) (cHS) (by rw[Rat.mul_one];exact cHS) (by rw[Rat.mul_one];exact m) (by decide) (by decide) (by decide) h1 h2;have d:R.It (2^(79+1)) 1 579589912201271152073009 1060932217912824869797341=(1017275999990815458903788,653185407961314874212932):=by decide +kernel
 have w:2^(79+1)=wK:=by decide +kernel
 have t:((4^1*(2*(79+1)+10):Nat):Rat)=680:=by norm_cast
 rw[d,w,t]at b;exact b
def Qh:Int:=4607182418800017408
theorem aNM:Real Qh:=⟨by decide,by decide +kernel,by decide +kernel,by decide +kernel⟩
theorem aNN:R.qz (bB.sW Qh)=1:=by
 rw[show bB.sW Qh=(1,0) by decide +kernel,qP]
theorem aWR:R.pz (-80)*(wK:Rat)=1:=by
 have:=R.gL 0 (n:=80) (c:=(wK:Rat)) (by rw[show 2^80=wK by decide +kernel]);rwa [R.gR]at this
theorem aZJ:R.ab (((1017275999990815458903788:Nat):Rat)-(wK:Rat)*R.Sf 1 (kx Qh))<=681/\R.ab (((653185407961314874212932:Nat):Rat)-(wK:Rat)*R.Cf 1 (kx Qh))<=681:=by
 obtain⟨p1,p2⟩:=R.iP;have n1:=aGG aNM;rw[aNN]at n1;unfold R.tZ at n1;have hk:R.ab (1-(kx Qh:Rat)*(R.pi/2))<=1:=cGJ n1 (by grind);have hl:R.ab (1-((0:Int):Rat)*(R.pi/2))<=1:=by
  rw[show((0:Int):Rat)=0 from rfl,cQD,R.cN];grind
 obtain⟨a,b⟩:=R.aZA hk hl;have e0:R.Sf 1 0=R.sn 1:=by
  unfold R.Sf R.rs;rw[if_pos (show(0:Int)%4=0 from rfl),show((0:Int):Rat)=0 from rfl,cQD,show(1:Rat)-0=1 by grind]
 have e1:R.Cf 1 0=R.cs 1:=by
  unfold R.Cf R.rc;rw[if_pos (show(0:Int)%4=0 from rfl),show((0:Int):Rat)=0 from rfl,cQD,show(1:Rat)-0=1 by grind]
 rw[e0]at a;rw[e1]at b;obtain⟨c,d⟩:=aYZ;have h:=R.Sz (n:=80) (by decide);rw[R.bEW]at h;have hw:=aWR;have w0:(0:Rat)<=(wK:Rat):=by exact_mod_cast cHH _
 have m:=R.aJ w0 (show 0<=R.pz (-80)-R.Gn from by
  have:R.Gn<=R.pz (-80):=h;grind)
 have hm:(wK:Rat)*R.Gn<=1:=by grind
 rw[R.cN]at a b c d;have ma1:=R.aJ w0 (show 0<=R.Gn+(R.Sf 1 (kx Qh)-R.sn 1) by grind);have ma2:=R.aJ w0 (show 0<=R.Gn-(R.Sf 1 (kx Qh)-R.sn 1) by grind);have mb1:=R.aJ w0 (show 0<=R.Gn+(R.Cf 1 (kx Qh)-R.cs 1) by grind);have mb2:=R.aJ w0 (show 0<=R.Gn-(R.Cf 1 (kx Qh)-R.cs 1) by grind);rw[R.cN,R.cN];generalize (wK:Rat)=W at *;generalize R.Sf 1 (kx Qh)=A at *;generalize R.Cf 1 (kx Qh)=B at *;constructor <;> constructor <;> grind
theorem aTN{a b c s w d:Nat}{V C:Rat}(hw:0<w)(hd:d<c)(h1:a*(c+d)+w*d<=w*s)(h2:w*(s+d)+b*d<=b*c)(hC:R.ab ((c:Rat)-(w:Rat)*C)<=(d:Rat))(hS:C≠0->R.ab ((s:Rat)-(w:Rat)*(V*C))<=(d:Rat)):(a:Rat)<=(w:Rat)*V/\(w:Rat)*V<=(b:Rat):=by
 have g1:(a:Rat)*((c:Rat)+d)+w*d<=w*s:=by exact_mod_cast h1
 have g2:(w:Rat)*((s:Rat)+d)+b*d<=b*c:=by exact_mod_cast h2
 have w0:(0:Rat)<w:=by exact_mod_cast hw
 have a0:(0:Rat)<=a:=by exact_mod_cast cHH _
 have b0:(0:Rat)<=b:=by exact_mod_cast cHH _
 have d0:(d:Rat)<c:=by exact_mod_cast hd
 rw[R.cN]at hC;have c0:0<C:=by
  refine Rat.not_le.1 fun hn=>?_
  have:=R.aJ (cGL w0) (show 0<=-C by grind);grind
 have hS:=hS (by grind);rw[R.cN]at hS;have q0:=Rat.mul_pos w0 c0;generalize (w:Rat)=W at *;generalize (a:Rat)=A at *;generalize (b:Rat)=B at *;generalize (c:Rat)=c at *;generalize (s:Rat)=s at *;generalize (d:Rat)=d at *;have m1:=R.aJ a0 (show 0<=c+d-W*C by grind);have m2:=R.aJ (cGL w0) (show 0<=W*(V*C)-(s-d) by grind);have m3:=R.aJ b0 (show 0<=W*C-(c-d) by grind);have m4:=R.aJ (cGL w0) (show 0<=s+d-W*(V*C) by grind);exact⟨R.cK q0 (by grind),R.cK q0 (by grind)⟩
theorem Uj:∀{fn:Int} {A B:Int},((fn=1/\A=1017275999990815458903107/\B=1017275999990815458904469)\/(fn=2/\A=653185407961314874212251/\B=653185407961314874213613)\/(fn=3/\A=1882790410002582395862843/\B=1882790410002582395872377))->R.qz (A,-80)<=vx fn Qh/\vx fn Qh<=R.qz (B,-80):=by
 intro fn A B h;obtain⟨a,b⟩:=aZJ;have hw:=aWR;have w0:(0:Rat)<(wK:Rat):=by exact_mod_cast(show 0<wK by decide)
 have p0:=R.dW (-80);have key:∀{V:Rat} {A B:Int},(A:Rat)<=(wK:Rat)*V->(wK:Rat)*V<=(B:Rat)->R.qz (A,-80)<=V/\V<=R.qz (B,-80):=by
  intro V A B h1 h2;have m1:=R.aJ (cGL p0) (show 0<=(wK:Rat)*V-(A:Rat) by grind);have m2:=R.aJ (cGL p0) (show 0<=(B:Rat)-(wK:Rat)*V by grind);unfold R.qz;dsimp only;have e:R.pz (-80)*((wK:Rat)*V)=V:=by rw[<-cMO,hw,cQE]
  constructor <;> grind
 rw[R.cN]at a b;have k1:((681:Nat):Rat)=681:=by norm_cast
 unfold vx R.fv;rw[aNN];rcases h with ⟨rfl,rfl,rfl⟩ |⟨rfl,rfl,rfl⟩ |⟨rfl,rfl,rfl⟩
 ·rw[if_pos rfl];refine key ?_ ?_
  ·rw[show(1017275999990815458903107:Int)=((1017275999990815458903788:Nat):Int)-((681:Nat):Int) by decide +kernel,cPG,cMQ,cMQ,k1];grind
  ·rw[show(1017275999990815458904469:Int)=((1017275999990815458903788:Nat):Int)+((681:Nat):Int) by decide +kernel,cOG,cMQ,cMQ,k1];grind
 ·rw[if_neg (by decide),if_pos rfl];refine key ?_ ?_
  ·rw[show(653185407961314874212251:Int)=((653185407961314874212932:Nat):Int)-((681:Nat):Int) by decide +kernel,cPG,cMQ,cMQ,k1];grind
  ·rw[show(653185407961314874213613:Int)=((653185407961314874212932:Nat):Int)+((681:Nat):Int) by decide +kernel,cOG,cMQ,cMQ,k1];grind
 ·rw[if_neg (by decide),if_neg (by decide)];generalize R.Sf 1 (kx Qh)=S at *;generalize R.Cf 1 (kx Qh)=C at *;obtain⟨q1,q2⟩:=aTN (a:=1882790410002582395862843) (b:=1882790410002582395872377) (c:=653185407961314874212932) (s:=1017275999990815458903788) (w:=wK) (d:=681) (V:=S/C) (C:=C) (by decide) (by decide) (by decide +kernel) (by decide +kernel) (by rw[R.cN,k1];exact⟨b.1,b.2⟩) (fun hc=>by rw[Rat.div_mul_cancel hc,R.cN,k1];exact⟨a.1,a.2⟩);refine key ?_ ?_
  ·rw[show(1882790410002582395862843:Int)=((1882790410002582395862843:Nat):Int)from rfl,cMQ];exact q1
  ·rw[show(1882790410002582395872377:Int)=((1882790410002582395872377:Nat):Int)from rfl,cMQ];exact q2
theorem xF{f P:Int}(hf:f=32\/f=64){s:(Int×Int)×(Int×Int)}{A B:Int×Int}(hA:0<A.1)(a:R.qz A<=R.qz s.1)(h:R.qz s.1<=R.qz s.2)(b:R.qz s.2<=R.qz B)(e1:gG.iN f A=P)(e2:gG.iN f B=P):pW.aLJ f s=(P,true):=by
 have s0:0<s.1.1:=jI.1 (by have:=jI.2 hA;grind);have t0:0<s.2.1:=jI.1 (by have:=jI.2 s0;grind);have m1:=mP hf hA a;have m2:=mP hf s0 h;have m3:=mP hf t0 b;unfold pW.aLJ;rw[aQ,show gG.iN f s.1=P by omega]
theorem aZF{f P A B:Int}(hf:f=32\/f=64){s:(Int×Int)×(Int×Int)}{V:Rat}(h:aKP s V 128)(hA:1<A)(hB:B<=2417851639229258349412352)(a:R.qz (A,-80)<=V)(b:V<=R.qz (B,-80))(e1:gG.iN f (A-1,-80)=P)(e2:gG.iN f (B+1,-80)=P):pW.aLJ f s=(P,true):=by
 have V2:V<=R.qz (1,1):=cGJ b ((R.Na (g:=-80) (by show(-80:Int)<=-80;decide) (by show(-80:Int)<=1;decide)).2 (by rw[show(1:Int)*((2^((1:Int) - -80).toNat:Nat):Int)=2417851639229258349412352 by decide +kernel,show((2^((-80:Int) - -80).toNat:Nat):Int)=1 by decide +kernel,Int.mul_one];exact hB));have V0:0<=V:=cGJ (cGL (jI.2 (show 0<((A,-80):Int×Int).1 by show 0<A;omega))) a;have e:R.qz (1,1)=2:=by unfold R.qz;rw[R.aNG];grind
 rw[e]at V2;obtain⟨_,_,lo,hi,wd,_⟩:=h;rw[R.bR V0]at wd;have w1:=R.aJ (cGL (R.dW (-129))) (show 0<=2-V by grind);have w2:=R.sE (-128);have w3:=R.cX (show(-128:Int)<=-80 by decide);have wd:R.qz s.2-R.qz s.1<=R.pz (-129)*V:=wd;have w2:R.pz (-129)*2=R.pz (-128):=w2;have ea:R.qz (A-1,-80)=R.qz (A,-80)-R.pz (-80):=by
  unfold R.qz;dsimp only;rw[cPG,show((1:Int):Rat)=1 from rfl];grind
 have eb:R.qz (B+1,-80)=R.qz (B,-80)+R.pz (-80):=by
  unfold R.qz;dsimp only;rw[cOG,show((1:Int):Rat)=1 from rfl];grind
 exact xF hf (A:=(A-1,-80)) (B:=(B+1,-80)) (by show 0<A-1;omega) (by grind) (by grind) (by grind) e1 e2
theorem aNO{fn:Int}(h:fn=1\/fn=2\/fn=3):gA.qB 64 fn Qh=0/\(dA.Kg 64 fn Qh).2=false:=by
 rcases h with rfl |rfl |rfl <;> exact⟨by decide +kernel,by decide +kernel⟩
def aTZ(fn:Int):Int:=if fn=1 then 4605754516372524270 else if fn=2 then 4603041830072026764 else 4609692760021066662
theorem aGA{fn:Int}(h:fn=1\/fn=2\/fn=3):dA.zK 64 fn Qh 128=(aTZ fn,true):=by
 obtain⟨he,hs⟩:=aNO h;have hn:=Yk (by decide) he hs;obtain⟨_,hE⟩:=xJ hn (show(1:Int)<=128/\(128:Int)<=66000 by decide);have ev:vZ fn (fB.xV 64 Qh)=vx fn Qh:=by
  unfold vZ fB.xV;rw[aO,if_neg (by decide)]
 rw[ev]at hE;unfold dA.zK Aj.dec;rcases h with rfl |rfl |rfl
 ·obtain⟨a,b⟩:=Uj (fn:=1) (.inl ⟨rfl,rfl,rfl⟩);exact aZF (.inr rfl) hE (by decide) (by decide) a b (by decide +kernel) (by decide +kernel)
 ·obtain⟨a,b⟩:=Uj (fn:=2) (.inr (.inl ⟨rfl,rfl,rfl⟩));exact aZF (.inr rfl) hE (by decide) (by decide) a b (by decide +kernel) (by decide +kernel)
 ·obtain⟨a,b⟩:=Uj (fn:=3) (.inr (.inr ⟨rfl,rfl,rfl⟩));exact aZF (.inr rfl) hE (by decide) (by decide) a b (by decide +kernel) (by decide +kernel)
theorem Sh{fn l:Int}(h:fn=1\/fn=2\/fn=3)(hl:128<=l/\l<=66000):IvClimb.Gx 64 fn Qh 128 l=(aTZ fn,true,128):=by
 obtain⟨he,hs⟩:=aNO h;have el:kD.Im 128 l=true:=decide_eq_true ⟨by decide,hl⟩;unfold IvClimb.Gx IvClimb.Rb;rw[el,if_pos rfl,he,if_neg (by decide),hs,cond_false];unfold IvClimb.Rp;rw[IvLadder.Jt hl.1];unfold IvClimb.first
 rw[aGA h,cond_true];dsimp only;rw[aGA h]
end W.Ziv
namespace W
open Go AI M
namespace Mc
def E:=mE [(26,kO.aI),(27,dA.aI),(28,IvClimb.aI)] 93 [] [(7,[1,4,7,10])] [7]
def aE:=bd f24
theorem aT:Nk E aE:=nk
def J7 a b c d:=lP E f24 aE 7 [dO a,dO b,dO c,dO d]
theorem start:aF E f24 aE []=letI F:=kO.Bz 64 3 4607182418800017408;letI C:=kO.Bz 64 2 4607182418800017408;letI B:=kO.Bz 64 1 4607182418800017408;letI A:=some [D.s (sc (bool false))];aM ((0:Int)<=(4607182418800017408:Int)/\(4607182418800017408:Int)<(18446744073709551616:Int)) (aM ((0:Int)<=(4607182418800017408:Int)/\(4607182418800017408:Int)<(18446744073709551616:Int)) (aM ((0:Int)<=(4607182418800017408:Int)/\(4607182418800017408:Int)<(18446744073709551616:Int)) (aM ((0:Int)<=(4602678819172646912:Int)/\(4602678819172646912:Int)<(18446744073709551616:Int)) (aB (!B.snd.fst) A (aB (!C.snd.fst) A (aB (!F.snd.fst) A (Mc.J7 B.fst C.fst F.fst (dA.aKB 64 4 4602678819172646912 1).fst))))))):=eJ aT
theorem Pz a b c d:J7 a b c d=letI B:=some [D.s (sc (bool false))];letI A:=IvClimb.Gx 64 1 4607182418800017408 128 128;aM ((0:Int)<=(4607182418800017408:Int)/\(4607182418800017408:Int)<(18446744073709551616:Int)) (aB (a==4605754516372524270) (aB (b==4603041830072026764) (aB (c==4609692760021066662) (aB (d==4607182418800017408) (some [D.s (sc (bool (A.fst==a&&(A.snd.fst==true&&(A.snd.snd==128&&true)))))]) B) B) B) B):=cJ aT
def sp:Prop×List D:=(True,[.s (.sc (.bool true))])
theorem spec(h:sp.1):aF E f24 aE []=some sp.2:=by
 have v:∀fn:Int,fn=1\/fn=2\/fn=3->kO.Bz 64 fn 4607182418800017408=(Ziv.aTZ fn,true,128):=fun fn h=>Ziv.Sh (l:=65536) h (by decide)
 have d:dA.aKB 64 4 4602678819172646912 1=(4607182418800017408,true):=by
  unfold dA.aKB;rw[if_neg (show ¬dA.aVO 64 4 4602678819172646912 1≠0 from fun h=>h (by decide +kernel)),show dA.Kg 64 4 4602678819172646912=(4607182418800017408,true) by decide +kernel,cond_true]
 refine start.trans ?_;rw[v 1 (by decide),v 2 (by decide),v 3 (by decide),d,gP (by decide),gP (by decide),gP (by decide),gP (by decide)];show J7 4605754516372524270 4603041830072026764 4609692760021066662 4607182418800017408=_;have c:IvClimb.Gx 64 1 4607182418800017408 128 128=(Ziv.aTZ 1,true,128):=Ziv.Sh (l:=128) (.inl rfl) (by decide);rw[Pz,c,gP (by decide)];rfl
def aI:dJ:=orc0  sp
theorem ok:OK 24 aI:=(eB E aE (aA kO.ok (aA dA.ok (aA IvClimb.ok aC))) func24).bLM spec
end Mc
namespace wG
def E:=mE [] 12 [] [] []
def aE:=bd f30
theorem aT:Nk E aE:=nk
theorem start a:aF E f30 aE [D.s (sc (int i64 a))]=letI B:=int i64 0;letI A:=int u64 0;aB (a==32) (some [D.agg [sc (int u64 2147483648),sc (int i64 24),sc (int i64 (-149:Int)),sc (int i64 104),sc (int u64 2139095040),sc (int u64 2143289345)],D.s (sc (bool true))]) (aB (a==64) (some [D.agg [sc (int u64 9223372036854775808),sc (int i64 53),sc (int i64 (-1074:Int)),sc (int i64 971),sc (int u64 9218868437227405312),sc (int u64 9221120237041090561)],D.s (sc (bool true))]) (some [D.agg [sc A,sc B,sc B,sc B,sc A,sc A],D.s (sc (bool false))])):=eJ aT
def fS(f:Int):Int:=if f=32 then 2147483648 else if f=64 then 9223372036854775808 else 0
def fP(f:Int):Int:=if f=32 then 24 else if f=64 then 53 else 0
def fE(f:Int):Int:=if f=32 then -149 else if f=64 then -1074 else 0
def fG(f:Int):Int:=if f=32 then 104 else if f=64 then 971 else 0
def fI(f:Int):Int:=if f=32 then 2139095040 else if f=64 then 9218868437227405312 else 0
def fQ(f:Int):Int:=if f=32 then 2143289345 else if f=64 then 9221120237041090561 else 0
def sp(f:Int):Prop×List D:=(True,[.agg [.sc (.int .u64 (fS f)),.sc (.int .i64 (fP f)),.sc (.int .i64 (fE f)),.sc (.int .i64 (fG f)),.sc (.int .u64 (fI f)),.sc (.int .u64 (fQ f))],.s (.sc (.bool (f==32||f==64)))])
theorem spec:iU E f30 aE (pN .i64) sp:=by
 intro f _;refine(start f).trans ?_
 by_cases h1:f=32
 ·subst h1;rfl
 ·by_cases h2:f=64
  ·subst h2;rfl
  ·rw[bA h1,bA h2];simp[sp,fS,fP,fE,fG,fI,fQ,h1,h2]
def aI:dJ:=orc1 (pN .i64) sp
theorem ok:OK 30 aI:=(eB E aE aC func30).oS rfl spec
end wG
namespace Qf
def E:=mE [(30,wG.aI)] 21 [] [] []
def aE:=bd f86
theorem aT:Nk E aE:=nk
theorem start a b:aF E f86 aE [D.s (sc (int i64 a)),D.s (sc (int u64 b))]=aM True (aB (!(a==32||a==64)) (some [D.s (sc (int i64 1))]) (aB (decide (wG.fS a<=u64.wrap (b.tdiv 2))) (some [D.s (sc (int i64 2))]) (some [D.s (sc (int i64 0))]))):=eJ aT
def aWC(f b:Int):Int:=bif lM.Am f then(bif cD.eZ f b then 0 else 2)else 1
def sp(f b:Int):Prop×List D:=(0<=b/\b<18446744073709551616,[.s (.sc (.int .i64 (aWC f b)))])
theorem spec:fL E f86 aE (pN .i64) (pN .u64) sp:=by
 intro f b h;have h:0<=b/\b<18446744073709551616:=h;refine(start f b).trans ((gP trivial).trans ?_);unfold sp aWC lM.Am;rw[cIS h.1,wrap_u64 (n:=b/2)]
 by_cases h1:f=32
 ·subst h1;rw[show wG.fS 32=2147483648 from rfl]
  by_cases hc:b<4294967296
  ·have:cD.eZ 32 b=true:=by unfold cD.eZ;rw[decide_eq_true hc,Bool.or_true]
   rw[aL,this];rfl
  ·have:cD.eZ 32 b=false:=by unfold cD.eZ;rw[decide_eq_false hc];rfl
   rw[aN,this];rfl
 ·by_cases h2:f=64
  ·subst h2;rw[show wG.fS 64=9223372036854775808 from rfl,aL];rfl
  ·rw[beq_eq_false_iff_ne.2 h1,beq_eq_false_iff_ne.2 h2,decide_eq_false (show ¬(f=32\/f=64) by omega)];rfl
def aI:dJ:=orc2 (pN .i64) (pN .u64) sp
theorem ok:OK 86 aI:=(eB E aE (aA wG.ok aC) func86).lF rfl spec
end Qf
namespace Hk
def E:=mE [(86,Qf.aI)] 16 [15] [] []
def aE:=bd f33
theorem aT:Nk E aE:=nk
theorem start a b c:aF E f33 aE [D.s (sc (int i64 a)),D.s (sc (int i64 b)),D.s (sc (int u64 c))]=letI A:=some [D.s (sc (int i64 1))];aB (decide (b<1)) A (aB (decide (6<b)) A (aM (0<=c/\c<18446744073709551616) (some [D.s (sc (int i64 (Qf.aWC a c)))]))):=eJ aT
def bEC(f fn b:Int):Int:=if fn<1 then 1 else if 6<fn then 1 else Qf.aWC f b
def sp(f fn b:Int):Prop×List D:=(0<=b/\b<18446744073709551616,[.s (.sc (.int .i64 (bEC f fn b)))])
theorem spec:oO E f33 aE (pN .i64) (pN .i64) (pN .u64) sp:=by
 intro f fn b h;refine(start f fn b).trans ?_;unfold sp bEC;dsimp only
 by_cases h1:fn<1
 ·rw[aN h1,if_pos h1]
 ·rw[aL h1,if_neg h1]
  by_cases h2:6<fn
  ·rw[aN h2,if_pos h2]
  ·rw[aL h2,if_neg h2,gP (show 0<=b/\b<18446744073709551616 from h)]
def aI:dJ:=orc3 (pN .i64) (pN .i64) (pN .u64) sp
theorem ok:OK 33 aI:=(eB E aE (aA Qf.ok aC) func33).xX rfl spec
end Hk
namespace zY
def E:=mE [] 33 [] [] []
def aE:=bd f216
theorem aT:Nk E aE:=nk
theorem start a c d e f g b:aF E f216 aE [D.agg [sc (int u64 a),sc (int i64 c),sc (int i64 d),sc (int i64 e),sc (int u64 f),sc (int u64 g)],D.s (sc (int u64 b))]=letI A:=(↑((2:Nat)^min (i64.wrap (c-1)).toNat 64):Int);letI B:=u64.wrap ((1:Int)*A);if i64.wrap (c-1)<0 then none else if u64.wrap ((1:Int)*A)=0 then none else if u64.wrap ((1:Int)*A)=0 then none else aB (u64.wrap (b.tdiv B)==0) (some [D.s (sc (int u64 (b.tmod B))),D.s (sc (int i64 d))]) (some [D.s (sc (int u64 (u64.wrap (u64.wrap ((1:Int)*A)+b.tmod B)))),D.s (sc (int i64 (i64.wrap (i64.wrap (d+i64.wrap (u64.wrap (b.tdiv B)))-1))))]):=eJ aT
def sp(k:K6)(b:Int):Prop×List D:=(yU k/\0<=b/\b<9223372036854775808,[.s (.sc (.int .u64 (uV k b.toNat:Nat))),.s (.sc (.int .i64 (kE k+(tP k b.toNat:Nat))))])
theorem aUJ:kH (kf true)=4503599627370496:=by kernel_rfl
theorem aUK:kH (kf false)=8388608:=by kernel_rfl
theorem bUH:u64.wrap (1*((2^min (i64.wrap ((kf true).2.1-1)).toNat 64:Nat):Int))=4503599627370496:=by kernel_rfl
theorem bUI:u64.wrap (1*((2^min (i64.wrap ((kf false).2.1-1)).toNat 64:Nat):Int))=8388608:=by kernel_rfl
theorem bVF:¬i64.wrap ((kf true).2.1-1)<0:=by rw[wrap_i64 (by simp[kf]) (by simp[kf])];simp[kf]
theorem bVG:¬i64.wrap ((kf false).2.1-1)<0:=by rw[wrap_i64 (by simp[kf]) (by simp[kf])];simp[kf]
theorem gen{k:K6}{h:Nat}(hh:kH k=h)(h1:1<h)(h2:h<9007199254740992)(hE:-1074<=kE k/\kE k<=0)(b:Int)(hb:0<=b)(tR:b<9223372036854775808)(hn:¬i64.wrap (k.2.1-1)<0)(hw:u64.wrap (1*((2^min (i64.wrap (k.2.1-1)).toNat 64:Nat):Int))=(h:Int)) :
  aF E f216 aE [(pG (.pair (sN .u64) (.pair (sN .i64) (.pair (sN .i64) (.pair (sN .i64) (.pair (sN .u64) (sN .u64))))))).put k,(pN .u64).put b]=some (sp k b).2:=by
 refine(start k.1 k.2.1 k.2.2.1 k.2.2.2.1 k.2.2.2.2.1 k.2.2.2.2.2 b).trans ?_;obtain⟨n,rfl⟩:=cGG hb;have hq:n/h<=n:=cJR _ _;have hm:n%h<h:=Nat.mod_lt _ (by omega);have bJT:n/h<4611686018427387904:=by
  apply cGY;have:2*4611686018427387904<=h*4611686018427387904:=cCT _ (by omega);omega
 have e1:((n:Int)).tdiv (h:Int)=((n/h:Nat):Int):=by rw[cIS hb,Int.natCast_ediv]
 have e2:((n:Int)).tmod (h:Int)=((n%h:Nat):Int):=by rw[cIT hb,Int.natCast_emod]
 have bKO:k.2.2.1=kE k:=rfl;rw[if_neg hn,hw,aO,aO,e1,e2,bKO];clear e1 e2 hw hn;unfold sp uV tP;simp only[hh,cFB];have aZW:n/h=0->n%h=n:=fun hz=>cLT ((cKS (by omega)).1 hz)
 generalize n/h=q at *;generalize n%h=r at *;rw[wrap_u64 (n:=(q:Int))]
 by_cases hz:q=0
 ·rw[bI,if_pos hz,hz,aZW hz];simp
 ·rw[bA,if_neg hz,wrap_u64 (n:=(h:Int)+(r:Int)),wrap_i64 (n:=(q:Int)),wrap_i64 (n:=kE k+(q:Int)),wrap_i64];rw[show kE k+(q:Int)-1=kE k+((q-1:Nat):Int)from by omega,Int.natCast_add]
theorem spec:fL E f216 aE (pG (.pair (sN .u64) (.pair (sN .i64) (.pair (sN .i64) (.pair (sN .i64) (.pair (sN .u64) (sN .u64))))))) (pN .u64) sp:=by
 rintro k b ⟨hk,hb,tR⟩;rcases hk with rfl |rfl
 ·exact gen aUJ (by omega) (by omega) (by simp[kE,kf]) b hb tR bVF bUH
 ·exact gen aUK (by omega) (by omega) (by simp[kE,kf]) b hb tR bVG bUI
def aI:dJ:=orc2 (pG (.pair (sN .u64) (.pair (sN .i64) (.pair (sN .i64) (.pair (sN .i64) (.pair (sN .u64) (sN .u64))))))) (pN .u64) sp
theorem ok:OK 216 aI:=(eB E aE aC func216).lF rfl spec
end zY
end W
namespace W.aAR
open Go AI M W
theorem aZR{w:Bool}{n:Int}(h0:0<=n):((uV (kf w) n.toNat:Nat):Int)=dT.pQ (aH.fD (bif w then 64 else 32)) n/\kE (kf w)+((tP (kf w) n.toNat:Nat):Int)=dT.sT (aH.fD (bif w then 64 else 32)) n:=by
 obtain⟨m,rfl⟩:=cGG h0;rw[cFB];unfold uV tP dT.pQ dT.sT;cases w with
 |true =>
  rw[zY.aUJ,show cO.lC (aH.fD (bif true then 64 else 32))=4503599627370496 from rfl,show(aH.fD (bif true then 64 else 32)).2.2.1=-1074 from rfl,show kE (kf true)=-1074 from rfl];constructor
  ·split <;> split <;> omega
  ·split <;> omega
 |false =>
  rw[zY.aUK,show cO.lC (aH.fD (bif false then 64 else 32))=8388608 from rfl,show(aH.fD (bif false then 64 else 32)).2.2.1=-149 from rfl,show kE (kf false)=-149 from rfl];constructor
  ·split <;> split <;> omega
  ·split <;> omega
theorem aXL{f:Int}(h:f=32\/f=64):(wG.fS f,wG.fP f,wG.fE f,wG.fG f,wG.fI f,wG.fQ f)=kf (f==64)/\f=(bif (f==64)then 64 else 32)/\yU (kf (f==64))/\(kf (f==64)).1=cA.cF (aH.fD f):=by
 rcases h with rfl |rfl
 ·exact⟨rfl,rfl,.inr rfl,rfl⟩
 ·exact⟨rfl,rfl,.inl rfl,rfl⟩
theorem aZP{f b:Int}(h:f=32\/f=64)(hb:0<=b):aR (zs (decide ((kf (f==64)).1<=b)) (nU (kf (f==64)) (b%(kf (f==64)).1).toNat)) (kE (kf (f==64)))=bQ.iK f b:=by
 obtain⟨k1,k2,k3,k4⟩:=aXL h;have hn:0<=b%cA.cF (aH.fD f):=cKI _ (by rcases Mu f with h |h <;> omega);obtain⟨m1,m2⟩:=aZR (w:=f==64) hn;rw[<-k2]at m1 m2;unfold bQ.iK aZ.kA aZ.lG;rw[k4,<-m1,<-m2,cFB];unfold nU;generalize uV (kf (f==64)) (b%cA.cF (aH.fD f)).toNat=M;generalize tP (kf (f==64)) (b%cA.cF (aH.fD f)).toNat=X;rw[<-zC _ _ (show(0:Int)<=(X:Int) by omega),Bd];congr 1;unfold zs;cases decide (cA.cF (aH.fD f)<=b) <;> simp[Int.neg_mul]
theorem Ry{z:Int}(h:z.natAbs<4294967296):yT (isNeg z,dg z.natAbs)/\(dg z.natAbs).length<=1:=by
 have:(dg z.natAbs).length<=1:=dP (by omega);exact⟨aBL (by omega),this⟩
theorem aTY{z:Int}(h:z.natAbs<4294967296)(h0:0<z):yT (isNeg z,dg z.natAbs)/\isNeg z=false/\(dg z.natAbs).length=1:=by
 have h1:=Ry h;have h2:(dg z.natAbs).length≠0:=fun hh=>by have:=gM.1 hh;omega
 exact⟨h1.1,iH.2 (by omega),by omega⟩
end W.aAR
namespace W
open Go AI M
namespace aSB
def E:=mE [] 14 [] [] []
def aE:=bd f128
theorem aT:Nk E aE:=nk
theorem start a c d e f g b:aF E f128 aE [D.agg [sc (int u64 a),sc (int i64 c),sc (int i64 d),sc (int i64 e),sc (int u64 f),sc (int u64 g)],D.s (sc (int u64 b))]=if a=0 then none else some [D.s (sc (bool (decide (a<=b)))),D.s (sc (int u64 (b.tmod a)))]:=eJ aT
def sp(k:K6)(b:Int):Prop×List D:=(yU k/\0<=b,[.s (.sc (.bool (decide (k.1<=b)))),.s (.sc (.int .u64 (b%k.1)))])
theorem spec:fL E f128 aE (pG (.pair (sN .u64) (.pair (sN .i64) (.pair (sN .i64) (.pair (sN .i64) (.pair (sN .u64) (sN .u64))))))) (pN .u64) sp:=by
 intro k b h;refine(start k.1 k.2.1 k.2.2.1 k.2.2.2.1 k.2.2.2.2.1 k.2.2.2.2.2 b).trans ?_;obtain⟨hk,hb⟩:=h;rw[if_neg (by rcases hk with rfl |rfl <;> simp[kf]),cIT hb];rfl
def aI:dJ:=orc2 (pG (.pair (sN .u64) (.pair (sN .i64) (.pair (sN .i64) (.pair (sN .i64) (.pair (sN .u64) (sN .u64))))))) (pN .u64) sp
theorem ok:OK 128 aI:=(eB E aE aC func128).lF rfl spec
end aSB
namespace Norm
def E:=mE [] 27 [] [(2,[0,3]),(4,[0,3])] [4]
def aE:=bd f218
theorem aT:Nk E aE:=nk
def L2 a b:=pZ E f218 aE 2 [qK a,bN b]
def J4 a b:=lP E f218 aE 4 [qK a,bN b]
theorem start a:aF E f218 aE [D.s (ints u32 a)]=Norm.L2 a (a.length:Int):=eJ aT
theorem mK a b:L2 a b=aB (decide (0<b)) (if 0<=i64.wrap (b-1)/\i64.wrap (b-1)<(a.length:Int)then aB (a.getD (i64.wrap (b-1)).toNat 0==(0:Int)) (Norm.L2 a (i64.wrap (b-1))) (Norm.J4 a b)else none) (Norm.J4 a b):=lJ aT
theorem Ek a b:J4 a b=letI A:=cHA 0 (cGZ b.toNat a);if 0<=b/\b<=b/\b<=8796093022208 then if(0:Int)<=(0:Int)/\0<=b/\b<=(a.length:Int)then some [D.own 71 u32 (cGZ b.toNat A ++ cHA (min A.length b.toNat) (cDH b.toNat (0:Int)))]else none else none:=cJ aT
theorem J{xs:List Int}{n:Nat}(h:n<=xs.length)(hl:xs.length<=4398046511104):J4 xs n=some [D.own uD .u32 (xs.take n)]:=by
 rw[Ek,aQ,aQ];simp only[cFB];rw[aQR h]
theorem L{xs:List Int}(hd:bZ xs)(hl:xs.length<=4398046511104):∀n:Nat,n<=xs.length->L2 xs n=some [D.own uD .u32 (dg (val (xs.take n)))]
 |0,h=>by
  rw[mK];simp only[aB,Int.natCast_zero,Int.lt_irrefl,decide_false,cond_false];rw[show((0:Int))=((0:Nat):Int)from rfl,J (by omega) hl];simp[val,cB]
 |n+1,h=>by
  rw[mK];have e:i64.wrap (((n+1:Nat):Int)-1)=(n:Int):=by rw[wrap_i64];omega
  rw[e];have e2:decide ((0:Int)<((n+1:Nat):Int))=true   := by simp
  simp only[aB,e2,cond_true,cFB];rw[aQ];cases hz:xs.getD n 0==0 with
  |true =>
   have hz:=eq_of_beq hz;simp only[cond_true];rw[L hd hl n (by omega),mL (by omega),hz];simp
  |false =>
   have hz:xs.getD n 0≠0:=by simpa using hz
   simp only[cond_false];rw[J h hl];have:cG (xs.take (n+1)):=Be (hd.take _) fun d hg=>by
    rw[getLast_take (by omega)]at hg;cases hg;exact hz
   rw[<-this]
def sp(a:List Int):Prop×List D:=(bZ a/\a.length<=4398046511104,[.own uD .u32 (dg (val a))])
theorem spec:iU E f218 aE (pI .u32) sp:=by
 rintro a ⟨hd,hl⟩;refine(start a).trans ?_;rw[L hd hl a.length (cBE _),cHZ];rfl
def aI:dJ:=orc1 (pI .u32) sp
theorem ok:OK 218 aI:=(eB E aE aC func218).oS rfl spec
end Norm
namespace Ca
def E:=mE [(218,Norm.aI)] 11 [10] [] []
def aE:=bd f185
theorem aT:Nk E aE:=nk
theorem start a:aF E f185 aE [D.s (sc (int u64 a))]=letI B:=a/4294967296;letI A:=fO BinOp.and u64 a 4294967295;aM (bZ [u32.wrap A,u32.wrap B]/\[u32.wrap A,u32.wrap B].length<=4398046511104) (some [D.own 71 u32 (dg (val [u32.wrap A,u32.wrap B]))]):=eJ aT
def sp(w:Int):Prop×List D:=(0<=w/\w<18446744073709551616,[.own uD .u32 (dg w.toNat)])
theorem spec:iU E f185 aE (pN .u64) sp:=by
 rintro w ⟨h,h'⟩;refine(start w).trans ?_;rw[oM h h',wrap_u32,wrap_u32,aGV]
 ·unfold sp;congr 4;simp only[val];omega
 ·refine⟨?_,by simp⟩;rw[mH,mH];exact⟨by omega,by omega,mQ⟩
def aI:dJ:=orc1 (pN .u64) sp
theorem ok:OK 185 aI:=(eB E aE (aA Norm.ok aC) func185).oS rfl spec
end Ca
namespace Cn
def E:=mE [(218,Norm.aI)] 46 [45] [(4,[0,1,7,8,9])] []
def aE:=bd f245
theorem aT:Nk E aE:=nk
def L4 a (b:Int) (c:Nat) (d:List Int) f g:=pZ E f245 aE 4 [qK a,vA (sc (int u32 b)),(A.v (V.one (L.buf 2 c)),some { e:=(71:Nat),cont:=rH.ints u32 d }),dO f,bN g]
theorem start a b c:aF E f245 aE [D.s (ints u32 a),D.s (sc (int u32 b)),D.s (sc (int u32 c))]=if(0:Int)<=(0:Int)/\0<=i64.wrap ((a.length:Int)+(1:Int))/\i64.wrap ((a.length:Int)+(1:Int))<=8796093022208 then Cn.L4 a b 0 (cDH 0 (0:Int)) (u64.wrap c) 0 else none:=eJ aT
theorem nS a b c d e f:L4 a b c d e f=letI C:=d ++ [u32.wrap e];letI B:=e+u64.wrap (u64.wrap (a.getD f.toNat 0)*u64.wrap b);letI A:=fO BinOp.and u64 (u64.wrap B) 4294967295;letI F:=d.length+[u32.wrap A].length;aB (decide (f<(a.length:Int))) (if 0<=f/\f<(a.length:Int)then if(0:Nat)<[u32.wrap A].length/\(F:Int)<=(8796093022208:Int)then Cn.L4 a b F (d ++ [u32.wrap A]) (u64.wrap B/4294967296) (i64.wrap (f+1))else none else none) (if(0:Nat)<[u32.wrap e].length/\(↑(d.length+[u32.wrap e].length):Int)<=(8796093022208:Int)then aM (bZ C/\C.length<=4398046511104) (some [D.own 71 u32 (dg (val C))])else none):=lJ aT
theorem L{a:List Int}{w:Int}(ha:bZ a)(aXT:a.length<=1099511627776)(hw:0<=w)(aXN:w<4294967296){r:Nat}:∀(d i:Nat) (xs:List Int) (c:Int),bZ xs->xs.length=i->0<=c->c<4294967296 ->
  i+d=a.length->val xs+4294967296^i*c.toNat=val (a.take i)*w.toNat+r ->
  L4 a w i xs c i=some [D.own uD .u32 (dg (val a*w.toNat+r))]:=by
 intro d
 induction d with
 |zero =>
  intro i xs c hx Ey h0 h1 hd hv;rw[nS,aL,if_pos ⟨by simp,by simp;omega⟩,wrap_u32,cKQ h0 h1,gP ⟨mG hx ⟨h0,h1⟩,by simp;omega⟩,lY,Ey,hv,bV (by omega)]
 |succ d ih =>
  intro i xs c hx Ey h0 h1 hd hv;have g1:=ha.get i;have e':((i:Int)).toNat=i:=cFB i;have hm:a.getD i 0*w<=4294967295*4294967295:=by
   have h1:a.getD i 0*w<=4294967295*w:=cDO (by omega) hw;have h2:(4294967295:Int)*w<=4294967295*4294967295:=Int.mul_le_mul_of_nonneg_left (by omega) (by omega);omega
  have Sq:0<=a.getD i 0*w:=Int.mul_nonneg g1.1 hw;rw[nS,aN,aQ,e',wrap_u64 (n:=a.getD i 0),wrap_u64 (n:=w),wrap_u64 (n:=a.getD i 0*w),wrap_u64,
   oM (by omega) (by omega),if_pos ⟨by simp,by simp;omega⟩,wrap_u32,Int.emod_emod_of_dvd _ (Int.dvd_refl _),wrap_i64,Ey]
  show L4 a w (i+1) _ _ ((i+1:Nat):Int)=_;refine ih (i+1) _ _ (mG hx (by omega)) (by simp[Ey]) (by omega) (by omega) (by omega) ?_;rw[lY,bJ,Ey,cGD,cGH,Nat.add_mul];have et:(a.getD i 0*w).toNat=(a.getD i 0).toNat*w.toNat:=Int.toNat_mul g1.1 hw;have e:4294967296*((c+a.getD i 0*w)/4294967296).toNat+((c+a.getD i 0*w)%4294967296).toNat=c.toNat+(a.getD i 0).toNat*w.toNat:=by rw[<-et];omega
  generalize a.getD i 0=x at *;generalize 4294967296^i=B at *;have e2:B*(4294967296*((c+x*w)/4294967296).toNat)+B*((c+x*w)%4294967296).toNat=B*c.toNat+B*(x.toNat*w.toNat):=by
   rw[<-cGF,e,cGF]
  rw[cGH];omega
def sp(a:List Int)(w c:Int):Prop×List D:=(bZ a/\a.length<=1099511627776/\(0<=w/\w<4294967296)/\(0<=c/\c<4294967296),[.own uD .u32 (dg (val a*w.toNat+c.toNat))])
theorem spec:oO E f245 aE (pI .u32) (pN .u32) (pN .u32) sp:=by
 rintro a w c ⟨ha,h1,hw,hc⟩;refine(start a w c).trans ?_;rw[wrap_i64,if_pos ⟨by omega,by omega,by omega⟩,wrap_u64];exact L ha h1 hw.1 hw.2 a.length 0 [] c mQ rfl hc.1 hc.2 (by omega) (by simp[val])
def aI:dJ:=orc3 (pI .u32) (pN .u32) (pN .u32) sp
theorem ok:OK 245 aI:=(eB E aE (aA Norm.ok aC) func245).xX rfl spec
end Cn
namespace bEE
def E:=mE [(218,Norm.aI),(245,Cn.aI)] 32 [14,31] [(3,[0,1])] [3]
def aE:=bd f215
theorem aT:Nk E aE:=nk
def J3 a b:=lP E f215 aE 3 [qK a,bN b]
theorem start a b:aF E f215 aE [D.s (ints u32 a),D.s (sc (int i64 b))]=letI A:=aM (bZ a/\a.length<=4398046511104) (some [D.own 71 u32 (dg (val a))]);aB (decide (b<=0)) A (aB ((a.length:Int)==(0:Int)) A (bEE.J3 a b)):=eJ aT
theorem iB a b:J3 a b=letI G:=b.tdiv 32;letI F:=i64.wrap (i64.wrap G+(a.length:Int))+1;letI C:=(↑((2:Nat)^min (b.tmod 32).toNat 32):Int);letI A:=val a*(u32.wrap ((1:Int)*C)).toNat+0;letI B:=cDH (i64.wrap G).toNat (0:Int) ++ dg A;if 0<=i64.wrap G/\i64.wrap G<=i64.wrap F/\i64.wrap F<=8796093022208 then if b.tmod 32<(0:Int)then none else aM (bZ a/\a.length<=1099511627776/\(0<=u32.wrap ((1:Int)*C)/\u32.wrap ((1:Int)*C)<4294967296)/\(0:Int)<=(0:Int)/\(0:Int)<(4294967296:Int)) (if 0<(dg A).length/\(↑((cDH (i64.wrap G).toNat (0:Int)).length+(dg A).length):Int)<=(8796093022208:Int)then aM (bZ B/\B.length<=4398046511104) (some [D.own 71 u32 (dg (val B))])else none)else none:=cJ aT
def sp(a:List Int)(n:Int):Prop×List D:=(cG a/\a.length<=1099511627776/\n<=1099511627776,[.own uD .u32 (dg (val a*2^n.toNat))])
theorem spec:fL E f215 aE (pI .u32) (pN .i64) sp:=by
 rintro a n ⟨ha,h1,h2⟩;refine(start a n).trans ?_;show _=some [D.own uD .u32 (dg (val a*2^n.toNat))]
 by_cases hn:n<=0
 ·rw[aN hn,gP ⟨ha.jE,by omega⟩,show n.toNat=0 from by omega,cLF,Nat.mul_one]
 ·rw[aL hn]
  by_cases hz:a.length=0
  ·have hv:=(cZ ha).1 hz;rw[bI,gP ⟨ha.jE,by omega⟩,hv,Nat.zero_mul]
  ·have hv:val a≠0:=fun h=>hz ((cZ ha).2 h)
   rw[bA,iB,aMK (by omega),aMF (by omega),wrap_i64 (n:=n/32),wrap_i64 (n:=n/32+a.length),wrap_i64,if_pos ⟨by omega,by omega,by omega⟩,aO,
    Xu (by omega) (by omega),cFB]
   have e1:(n%32).toNat=n.toNat%32:=by omega
   have e2:(n/32).toNat=n.toNat/32:=by omega
   have hp:2^(n.toNat%32)<2^32:=cHX (by omega) (by omega);have aCP:0<2^(n.toNat%32):=cY;rw[e1,e2,Nat.add_zero];have hm:val a*2^(n.toNat%32)≠0:=Nat.mul_ne_zero hv (by omega);have bDM:(dg (val a*2^(n.toNat%32))).length<=a.length+1:=by
    apply dP;rw[cGD];exact Nat.mul_lt_mul_of_lt_of_lt (dR ha.jE) hp
   have Sq:(dg (val a*2^(n.toNat%32))).length≠0:=fun h=>hm (gM.1 h)
   rw[gP ⟨ha.jE,h1,⟨by omega,by generalize 2^(n.toNat%32)=p at *;omega⟩,by omega,by omega⟩,if_pos ⟨by omega,by rw[cOP];omega⟩,
    gP ⟨qC.2 ⟨jH _,gH _⟩,by rw[cCI,cOP];omega⟩,jZ,jG,cOP,bD,cBG,Db n.toNat,Nat.mul_left_comm]
def aI:dJ:=orc2 (pI .u32) (pN .i64) sp
theorem ok:OK 215 aI:=(eB E aE (aA Norm.ok (aA Cn.ok aC)) func215).lF rfl spec
end bEE
namespace bCM
def E:=mE [(185,Ca.aI),(215,bEE.aI)] 6 [5] [] []
def aE:=bd f176
theorem aT:Nk E aE:=nk
theorem start a:aF E f176 aE [D.s (sc (int i64 a))]=aM ((0:Int)<=(1:Int)/\(1:Int)<(18446744073709551616:Int)) (aM (cG (dg 1)/\(dg 1).length<=1099511627776/\a<=1099511627776) (some [D.own 71 u32 (dg (val (dg 1)*(2:Nat)^a.toNat))])):=eJ aT
def sp(n:Int):Prop×List D:=(n<=1099511627776,[.own uD .u32 (dg (2^n.toNat))])
theorem spec:iU E f176 aE (pN .i64) sp:=by
 intro n h;refine(start n).trans ?_;rw[gP ⟨by omega,by omega⟩,gP ⟨aY _,by simp[dg],h⟩,bD];simp[sp]
def aI:dJ:=orc1 (pN .i64) sp
theorem ok:OK 176 aI:=(eB E aE (aA Ca.ok (aA bEE.ok aC)) func176).oS rfl spec
end bCM
namespace aSC
def E:=mE [] 25 [] [(5,[3,4])] []
def aE:=bd f214
theorem aT:Nk E aE:=nk
def L5 a (b:Int):=pZ E f214 aE 5 [bN a,vA (sc (int u32 b))]
theorem start a:aF E f214 aE [D.s (ints u32 a)]=letI A:=(a.length:Int);letI B:=A-(1:Int);aB (A==(0:Int)) (some [D.s (sc (int i64 0))]) (if 0<=i64.wrap B/\i64.wrap B<A then aSC.L5 (i64.wrap ((32:Int)*i64.wrap B)) (a.getD (i64.wrap B).toNat 0)else none):=eJ aT
theorem Px a b:L5 a b=aB (decide (0<b)) (aSC.L5 (i64.wrap (a+1)) (u32.wrap (b.tdiv 2))) (some [D.s (sc (int i64 a))]):=lJ aT
theorem L:∀(m:Nat) (x w:Int),0<=w->w<2^m->m<=64->w<4294967296->0<=x->x<=4611686018427387904-m->L5 x w=some [D.s (.sc (.int .i64 (x+(bl w.toNat:Nat))))]:=by
 intro m
 induction m with
 |zero =>
  intro x w h0 h1 _ _ hx Ae;have:w=0:=by omega
  subst this;rw[Px,aL];simp[bl]
 |succ m ih =>
  intro x w h0 h1 hm hw hx Ae;rw[Px]
  by_cases hz:w=0
  ·subst hz;rw[aL];simp[bl]
  ·have hp:(2:Int)^(m+1)=2*2^m:=by rw[Int.pow_succ];omega
   rw[hp]at h1;rw[aN,cIS h0,aHV (by omega),wrap_i64,ih _ _ (by omega) (by omega) (by omega) (by omega) (by omega) (by omega),aWF (n:=w.toNat) (by omega),show(w/2).toNat=w.toNat/2 from by omega];congr 5;omega
def sp(a:List Int):Prop×List D:=(cG a/\a.length<=4398046511104,[.s (.sc (.int .i64 (bl (val a):Nat)))])
theorem spec:iU E f214 aE (pI .u32) sp:=by
 rintro a ⟨ha,h1⟩;refine(start a).trans ?_;show _=some [D.s (.sc (.int .i64 (bl (val a):Nat)))]
 by_cases hz:a.length=0
 ·rw[bI,(cZ ha).1 hz];rfl
 ·have hd:=ha.jE.get (a.length-1);have hv:=bJ (a:=a) (a.length-1);rw[show a.length-1+1=a.length from by omega,bV (cBE _)]at hv;have ht:a.getD (a.length-1) 0≠0:=by
   have:=getLast_take (a:=a) (n:=a.length-1) (by omega);rw[show a.length-1+1=a.length from by omega,cHZ]at this;exact ha.top this
  have e:((a.length:Int)-1).toNat=a.length-1:=by omega
  rw[bA,wrap_i64 (n:=(a.length:Int)-1),aQ,e,wrap_i64,
   L 32 _ _ hd.1 (by omega) (by omega) hd.2 (by omega) (by omega),hv,Ju,Bw (by rw[<-Ju];exact iG ha.jE _) (by omega)]
  congr 5;omega
def aI:dJ:=orc1 (pI .u32) sp
theorem ok:OK 214 aI:=(eB E aE aC func214).oS rfl spec
end aSC
namespace To
def E:=mE [(218,Norm.aI)] 44 [] [(4,[3,4,5])] []
def aE:=bd f224
theorem aT:Nk E aE:=nk
def L4 a (b:Nat) (c:List Int) d:=pZ E f224 aE 4 [qK a,Dq 1 b 22 c,bN d]
theorem start a:aF E f224 aE [D.s (ints u32 a)]=letI A:=i64.wrap ((↑(dg (val a)).length:Int).tdiv 2)+1;aM (bZ a/\a.length<=4398046511104) (if(0:Int)<=(0:Int)/\0<=i64.wrap A/\i64.wrap A<=8796093022208 then To.L4 (dg (val a)) 0 (cDH 0 (0:Int)) 0 else none):=eJ aT
theorem nS a b c d:L4 a b c d=letI C:=(a.length:Int);letI B:=a.getD d.toNat 0;letI G:=c.length+[u64.wrap B].length;letI A:=u64.wrap B+u64.wrap (u64.wrap (a.getD (i64.wrap (d+1)).toNat 0)*4294967296);letI F:=c.length+[u64.wrap A].length;aB (decide (d<C)) (if 0<=d/\d<C then aB (decide (i64.wrap (d+1)<C)) (if 0<=i64.wrap (d+1)/\i64.wrap (d+1)<C then if(0:Nat)<[u64.wrap A].length/\(F:Int)<=(8796093022208:Int)then To.L4 a F (c ++ [u64.wrap A]) (i64.wrap (d+2))else none else none) (if(0:Nat)<[u64.wrap B].length/\(G:Int)<=(8796093022208:Int)then To.L4 a G (c ++ [u64.wrap B]) (i64.wrap (d+2))else none)else none) (some [D.own 22 u64 c]):=lJ aT
theorem L{d:List Int}(hd:cG d)(hl:d.length<=4398046511104):∀(k i:Nat) (xs:List Int),i+k>=d.length->i<=d.length+1->xs.length<=i ->
  L4 d xs.length xs i=some [D.own gX .u64 (xs ++ M6.dg (val (d.drop i)))]:=by
 intro k
 induction k using Nat.strongRecOn with
 |_ k ih =>
  intro i xs hk hi Ey;rw[nS]
  by_cases h:i<d.length
  ·have g0:=hd.jE.get i;have g1:=hd.jE.get (i+1);have e':((i:Int)).toNat=i:=cFB i;have e1:((i:Int)+1).toNat=i+1:=by omega
   have hz:val (d.drop i)≠0:=by
    intro h0;have hn:cG (d.drop i):=Be (hd.jE.drop i) fun e he=>hd.top (by
     rw[List.getLast?_drop]at he;rw[aO]at he;exact he)
    have:=(cZ hn).2 h0;rw[cFE]at this;omega
   have ev:=iL (a:=d) i;have ev1:val (d.drop (i+1))=(d.getD (i+1) 0).toNat+4294967296*val (d.drop (i+2)):=iL (i+1);have key:M6.dg (val (d.drop i))=(d.getD i 0+d.getD (i+1) 0*4294967296) :: M6.dg (val (d.drop (i+2))):=by
    rw[M6.oL hz];congr 1
    ·omega
    ·congr 1;omega
   rw[aN,aQ,e',wrap_i64 (n:=(i:Int)+1),wrap_i64 (n:=(i:Int)+2),e1,wrap_u64 (n:=d.getD i 0),wrap_u64 (n:=d.getD (i+1) 0),
    wrap_u64 (n:=d.getD (i+1) 0*4294967296),wrap_u64]
   by_cases h1:i+1<d.length
   ·rw[aN,aQ,if_pos ⟨by simp,by simp;omega⟩];have:=ih (k-2) (by omega) (i+2) (xs ++ [d.getD i 0+d.getD (i+1) 0*4294967296]) (by omega) (by omega) (by simp;omega);simp only[cCI,cEP,cEQ]at this ⊢;rw[show((i:Int)+2)=((i+2:Nat):Int)from by omega,this,key,cCZ];rfl
   ·have bKC:d.getD (i+1) 0=0:=getD_none (by omega);rw[aL,if_pos ⟨by simp,by simp;omega⟩];have:=ih (k-1) (by omega) (i+2) (xs ++ [d.getD i 0]) (by omega) (by omega) (by simp;omega);simp only[cCI,cEP,cEQ]at this ⊢;rw[show((i:Int)+2)=((i+2:Nat):Int)from by omega,this,key,bKC,Int.zero_mul,Int.add_zero,cCZ];rfl
  ·rw[aL,List.drop_eq_nil_of_le (by omega)];simp[val,M6.cB]
def sp(a:List Int):Prop×List D:=(bZ a/\a.length<=1099511627776,[.own gX .u64 (M6.dg (val a))])
theorem spec:iU E f224 aE (pI .u32) sp:=by
 rintro a ⟨ha,h1⟩;refine(start a).trans ?_;have:=tG ha;rw[gP ⟨ha,by omega⟩,cIS (by omega),wrap_i64 (n:=((dg (val a)).length:Int)/2) (by omega) (by omega),wrap_i64,if_pos ⟨by omega,by omega,by omega⟩];have:=L (aY (val a)) (by omega) (dg (val a)).length 0 [] (by omega) (by omega) (by simp);simp only[cEQ,cHL,cFH,bD]at this;exact this
def aI:dJ:=orc1 (pI .u32) sp
theorem ok:OK 224 aI:=(eB E aE (aA Norm.ok aC) func224).oS rfl spec
end To
namespace Fits
def E:=mE [(224,To.aI)] 16 [] [] []
def aE:=bd f186
theorem aT:Nk E aE:=nk
theorem start a:aF E f186 aE [D.s (ints u32 a)]=letI A:=(↑(M6.dg (val a)).length:Int);aM (bZ a/\a.length<=1099511627776) (aB (A==(0:Int)) (some [D.s (sc (int u64 0)),D.s (sc (bool true))]) (aB (A==(1:Int)) (if(0:Int)<=(0:Int)/\0<A then some [D.s (sc (int u64 ((M6.dg (val a)).getD 0 0))),D.s (sc (bool true))]else none) (some [D.s (sc (int u64 0)),D.s (sc (bool false))]))):=eJ aT
def sp(a:List Int):Prop×List D:=(bZ a/\a.length<=1099511627776,[.s (.sc (.int .u64 ((if val a<18446744073709551616 then val a else 0:Nat):Int))),.s (.sc (.bool (decide (val a<18446744073709551616))))])
theorem spec:iU E f186 aE (pI .u32) sp:=by
 intro a h;refine(start a).trans ?_;refine(gP h).trans ?_;unfold sp;simp only
 by_cases h0:val a=0
 ·rw[h0,M6.cB];rfl
 ·by_cases h1:val a<18446744073709551616
  ·rw[if_pos h1,decide_eq_true h1,M6.oL h0,cLT h1,cHB h1,M6.cB];rfl
  ·rw[if_neg h1,decide_eq_false h1];have hl:1<(M6.dg (val a)).length:=by
    rw[M6.oL h0,cEP];have:(M6.dg (val a/18446744073709551616)).length≠0:=fun hh=>by have:=M6.gM.1 hh;omega
    omega
   rw[bA,bA];rfl
def aI:dJ:=orc1 (pI .u32) sp
theorem ok:OK 186 aI:=(eB E aE (aA To.ok aC) func186).oS rfl spec
end Fits
namespace wX
def E:=mE [(218,Norm.aI),(185,Ca.aI)] 46 [11,43] [(6,[0,1,6,7,8])] []
def aE:=bd f219
theorem aT:Nk E aE:=nk
def L6 a (b:Int) (c:Nat) (d:List Int) f g:=pZ E f219 aE 6 [qK a,vA (sc (int u32 b)),(A.v (V.one (L.buf 2 c)),some { e:=(71:Nat),cont:=rH.ints u32 d }),dO f,bN g]
theorem start a b:aF E f219 aE [D.s (ints u32 a),D.s (sc (int u32 b))]=letI A:=(a.length:Int);aB (b==0) (aM ((0:Int)<=(0:Int)/\(0:Int)<(18446744073709551616:Int)) (some [D.own 71 u32 (dg 0),D.s (sc (int u32 0))])) (if 0<=A/\A<=A/\A<=(8796093022208:Int)then wX.L6 a b A.toNat (cDH A.toNat (0:Int)) 0 (i64.wrap (A-(1:Int)))else none):=eJ aT
theorem vD a b c d e f:L6 a b c d e f=letI A:=u64.wrap (u64.wrap (e*4294967296)+u64.wrap (a.getD f.toNat 0));aB (decide (0<=f)) (if 0<=f/\f<(a.length:Int)then if u64.wrap b=0 then none else if 0<=f/\f<(c:Int)then if u64.wrap b=0 then none else wX.L6 a b c (d.set f.toNat (u32.wrap (u64.wrap (A.tdiv (u64.wrap b))))) (A.tmod (u64.wrap b)) (i64.wrap (f-1))else none else none) (aM (bZ d/\d.length<=4398046511104) (some [D.own 71 u32 (dg (val d)),D.s (sc (int u32 (u32.wrap e)))])):=lJ aT
theorem L{a:List Int}{w:Int}(ha:bZ a)(aXT:a.length<=1099511627776)(hw:0<w)(aXN:w<4294967296):∀(n:Nat) (q:List Int) (l:Int),bZ q->q.length=a.length->0<=l->l<w->n<=a.length ->
  L6 a w a.length q l ((n:Int)-1)=some [D.own uD .u32 (dg ((l.toNat*4294967296^n+val (a.take n))/w.toNat+4294967296^n*val (q.drop n))),D.s (.sc (.int .u32 (((l.toNat*4294967296^n+val (a.take n))%w.toNat:Nat):Int)))]:=by
 intro n
 induction n with
 |zero =>
  intro q l hq bJP h0 h1 hn;rw[vD,aL,gP ⟨hq,by omega⟩,wrap_u32];simp only[cLF,Nat.mul_one,List.take_zero,val,Nat.add_zero,cHL,Nat.one_mul];rw[cHB (by omega),cBG,cLT (by omega)];have e0:l%4294967296=(l.toNat:Int):=by omega
  rw[e0]
 |succ n ih =>
  intro q l hq bJP h0 h1 hn;have g1:=ha.get n;have e:(((n+1:Nat):Int)-1)=(n:Int):=by omega
  have e':((n:Int)).toNat=n:=cFB n;have hu:wrap_u64 (n:=w)=wrap_u64 (n:=w):=rfl;rw[e,vD,aN,aQ,e',wrap_u64 (n:=w),aO,aQ,aO,wrap_u64 (n:=l*4294967296),
   wrap_u64 (n:=a.getD n 0),wrap_u64 (n:=l*4294967296+a.getD n 0),wrap_i64]
  have Nz:0<=l*4294967296+a.getD n 0:=by omega
  rw[cIS Nz,cIT Nz];have bRZ:(l*4294967296+a.getD n 0)/w<4294967296:=Int.ediv_lt_of_lt_mul hw (by
   have:(l+1)*4294967296<=w*4294967296:=cDO (by omega) (by omega);omega)
  have aSM:0<=(l*4294967296+a.getD n 0)/w:=Int.ediv_nonneg Nz (by omega);have Sq:=cKI (l*4294967296+a.getD n 0) (show w≠0 by omega);have bJV:=cKJ (l*4294967296+a.getD n 0) hw;rw[wrap_u64 aSM (by omega),wrap_u32,cKQ aSM bRZ,ih _ _ (nI hq ⟨aSM,bRZ⟩) (by simpa using bJP) Sq bJV (by omega),qM (by omega),bJ];have bJI:0<w.toNat:=by omega
  have d1:((l*4294967296+a.getD n 0)/w).toNat=(l.toNat*4294967296+(a.getD n 0).toNat)/w.toNat:=by
   rw[Xj Nz (by omega)];congr 1;omega
  have d2:((l*4294967296+a.getD n 0)%w).toNat=(l.toNat*4294967296+(a.getD n 0).toNat)%w.toNat:=by
   rw[Xi Nz (by omega)];congr 1;omega
  rw[d1,d2,cGD];generalize (a.getD n 0).toNat=x at *;generalize l.toNat=l at *;generalize val (a.take n)=v at *;generalize 4294967296^n=B at *;have e3:l*(B*4294967296)+(v+B*x)=(l*4294967296+x)*B+v:=by
   rw[Nat.add_mul,cGC B 4294967296,<-cGH,cGC B x];omega
  rw[e3,aQE bJI,aNV (l:=l) (B:=4294967296) (d:=x),cGF,cGH,Nat.add_assoc]
def sp(a:List Int)(w:Int):Prop×List D:=(bZ a/\a.length<=1099511627776/\(0<w/\w<4294967296),[.own uD .u32 (dg (val a/w.toNat)),.s (.sc (.int .u32 ((val a%w.toNat:Nat):Int)))])
theorem spec:fL E f219 aE (pI .u32) (pN .u32) sp:=by
 rintro a w ⟨ha,h1,hw⟩;refine(start a w).trans ?_;rw[bA,if_pos ⟨by omega,by omega,by omega⟩,wrap_i64,cFB,L ha h1 hw.1 hw.2 a.length _ 0 (jH _) (by simp) (by omega) (by omega) (cBE _)];simp[sp,val]
def aI:dJ:=orc2 (pI .u32) (pN .u32) sp
theorem ok:OK 219 aI:=(eB E aE (aA Norm.ok (aA Ca.ok aC)) func219).lF rfl spec
end wX
namespace bIS
def E:=mE [(218,Norm.aI),(185,Ca.aI),(219,wX.aI)] 29 [10,16,25] [] []
def aE:=bd f180
theorem aT:Nk E aE:=nk
theorem start a b:aF E f180 aE [D.s (ints u32 a),D.s (sc (int i64 b))]=letI F:=b.tdiv 32;letI C:=(a.length:Int);letI B:=(↑((2:Nat)^min (b.tmod 32).toNat 32):Int);letI A:=cHA (i64.wrap F).toNat (cGZ C.toNat a);aB (decide (b<=0)) (aM (bZ a/\a.length<=4398046511104) (some [D.own 71 u32 (dg (val a))])) (aB (decide (C<=i64.wrap F)) (aM ((0:Int)<=(0:Int)/\(0:Int)<(18446744073709551616:Int)) (some [D.own 71 u32 (dg 0)])) (if 0<=i64.wrap F/\i64.wrap F<=C/\C<=C then if b.tmod 32<(0:Int)then none else aM (bZ A/\A.length<=1099511627776/\0<u32.wrap ((1:Int)*B)/\u32.wrap ((1:Int)*B)<4294967296) (some [D.own 71 u32 (dg (val A/(u32.wrap ((1:Int)*B)).toNat))])else none)):=eJ aT
def sp(a:List Int)(n:Int):Prop×List D:=(bZ a/\a.length<=1099511627776/\n<9223372036854775808,[.own uD .u32 (dg (val a/2^n.toNat))])
theorem spec:fL E f180 aE (pI .u32) (pN .i64) sp:=by
 rintro a n ⟨ha,h1,h2⟩;refine(start a n).trans ?_;show _=some [D.own uD .u32 (dg (val a/2^n.toNat))]
 by_cases hn:n<=0
 ·rw[aN hn,gP ⟨ha,by omega⟩,show n.toNat=0 from by omega,cLF,Nat.div_one]
 ·have e1:(n%32).toNat=n.toNat%32:=by omega
  have e2:(n/32).toNat=n.toNat/32:=by omega
  rw[aL hn,aMK (by omega),aMF (by omega),wrap_i64 (n:=n/32)]
  by_cases hz:(a.length:Int)<=n/32
  ·rw[aN hz,gP ⟨by omega,by omega⟩,cHB];rw[Db];have h3:val a<4294967296^(n.toNat/32):=cCB (dR ha) (fK);have aCP:0<2^(n.toNat%32):=cY;exact cCB h3 (Nat.le_mul_of_pos_right _ aCP)
  ·have hp:2^(n.toNat%32)<2^32:=cHX (by omega) (by omega);have aCP:0<2^(n.toNat%32):=cY;rw[aL hz,if_pos ⟨by omega,by omega,by omega⟩,aO,Xu (by omega) (by omega),cFB,cHZ,e1,e2];rw[gP ⟨ha.drop _,by rw[cFE];omega,by generalize 2^(n.toNat%32)=p at *;omega⟩,cFB,lZ ha,aJU]
def aI:dJ:=orc2 (pI .u32) (pN .i64) sp
theorem ok:OK 180 aI:=(eB E aE (aA Norm.ok (aA Ca.ok (aA wX.ok aC))) func180).lF rfl spec
end bIS
namespace aRJ
def E:=mE [(214,aSC.aI),(186,Fits.aI),(180,bIS.aI)] 43 [18] [] []
def aE:=bd f175
theorem aT:Nk E aE:=nk
theorem start a c d e f g b:aF E f175 aE [D.agg [sc (int u64 a),sc (int i64 c),sc (int i64 d),sc (int i64 e),sc (int u64 f),sc (int u64 g)],D.s (ints u32 b)]=letI B:=(↑(bl (val b)):Int);letI A:=dg (val b/(2:Nat)^(i64.wrap (B-c)).toNat);aM (cG b/\b.length<=4398046511104) (aB (decide (B<c)) (aM (bZ b/\b.length<=1099511627776) (some [D.s (sc (int u64 (↑(if val b<18446744073709551616 then val b else(0:Nat)):Int)))])) (aM (bZ b/\b.length<=1099511627776/\i64.wrap (B-c)<9223372036854775808) (aM (bZ A/\A.length<=1099511627776) (if i64.wrap (c-1)<0 then none else some [D.s (sc (int u64 (u64.wrap (u64.wrap (u64.wrap (i64.wrap (B-c))*(↑((2:Nat)^min (i64.wrap (c-1)).toNat 64):Int))+(↑(if val A<18446744073709551616 then val A else(0:Nat)):Int)))))])))):=eJ aT
def sp(k:K6)(b:List Int):Prop×List D:=(yU k/\cG b/\bl (val b)<=2200,[.s (.sc (.int .u64 (Xq k (val b):Nat)))])
theorem gen{k:K6}{h:Nat}(p:Nat)(hh:kH k=h)(xA:h=2^(p-1))(hp:k.2.1=(p:Int))(Ao:1<p)(bXB:p<=53)(b:List Int)(hb:cG b)(hl:bl (val b)<=2200) :
  aF E f175 aE [(pG (.pair (sN .u64) (.pair (sN .i64) (.pair (sN .i64) (.pair (sN .i64) (.pair (sN .u64) (sN .u64))))))).put k,(pI .u32).put b]=some (sp k b).2:=by
 refine(start k.1 k.2.1 k.2.2.1 k.2.2.2.1 k.2.2.2.2.1 k.2.2.2.2.2 b).trans ?_;have l0:=aIO (val b);rw[vQ hb]at l0;have hP:kP k=p:=by unfold kP;omega
 have bSJ:h<=2^52:=by rw[xA];exact fK
 unfold sp Xq;simp only[hh,hP,bD];rw[hp,gP ⟨hb,by omega⟩]
 by_cases h1:bl (val b)<p
 ·have:val b<2^53:=by rw[<-dK];omega
  rw[aN,gP ⟨hb.jE,by omega⟩,if_pos h1,aQ]
 ·have e1:i64.wrap ((bl (val b):Int)-p)=((bl (val b)-p:Nat):Int):=by rw[wrap_i64];omega
  have e2:i64.wrap ((p:Int)-1)=((p-1:Nat):Int):=by rw[wrap_i64];omega
  have l1:=Ev (val b) (2^(bl (val b)-p));rw[vQ hb]at l1;have hq:val b/2^(bl (val b)-p)<2^53:=by
   have:val b/2^(bl (val b)-p)<2^p:=by
    apply cGY;rw[<-cGE,<-dK];omega
   exact cCB this (cEF (by omega) bXB)
  have hm:(bl (val b)-p)*h<=2200*2^52:=Nat.mul_le_mul (by omega) bSJ;have e3:min (p-1) 64=p-1:=by omega
  rw[aL,e1,e2,cFB,cFB,gP ⟨hb.jE,by omega,by omega⟩,gP ⟨gH _,by omega⟩,aO,if_neg h1,aQ,e3,<-xA];have e4:((bl (val b)-p:Nat):Int)*(h:Int)=(((bl (val b)-p)*h:Nat):Int):=by rw[Int.natCast_mul]
  rw[wrap_u64 (n:=((bl (val b)-p:Nat):Int)) (by omega) (by omega),e4];generalize (bl (val b)-p)*h=u at *;generalize val b/2^(bl (val b)-p)=v at *;rw[wrap_u64 (n:=(u:Int)),wrap_u64];rfl
theorem spec:fL E f175 aE (pG (.pair (sN .u64) (.pair (sN .i64) (.pair (sN .i64) (.pair (sN .i64) (.pair (sN .u64) (sN .u64))))))) (pI .u32) sp:=by
 rintro k b ⟨hk,hb,hl⟩;rcases hk with rfl |rfl
 ·exact gen 53 zY.aUJ (by simp) rfl (by omega) (by omega) b hb hl
 ·exact gen 24 zY.aUK (by simp) rfl (by omega) (by omega) b hb hl
def aI:dJ:=orc2 (pG (.pair (sN .u64) (.pair (sN .i64) (.pair (sN .i64) (.pair (sN .i64) (.pair (sN .u64) (sN .u64))))))) (pI .u32) sp
theorem ok:OK 175 aI:=(eB E aE (aA aSC.ok (aA Fits.ok (aA bIS.ok aC))) func175).lF rfl spec
end aRJ
namespace tY
def E:=mE [(176,bCM.aI),(175,aRJ.aI)] 9 [8] [] []
def aE:=bd f129
theorem aT:Nk E aE:=nk
theorem start a b c d e f:aF E f129 aE [D.agg [sc (int u64 a),sc (int i64 b),sc (int i64 c),sc (int i64 d),sc (int u64 e),sc (int u64 f)]]=letI A:=dg ((2:Nat)^(i64.wrap ((0:Int)-c)).toNat);aM (i64.wrap ((0:Int)-c)<=1099511627776) (aM (yU (a,b,c,d,e,f)/\cG A/\bl (val A)<=2200) (some [D.s (sc (int u64 (↑(Xq (a,b,c,d,e,f) (val A)):Int)))])):=eJ aT
def one(k:K6):Int:=if k.1=2147483648 then 1065353216 else 4607182418800017408
theorem aZK{k:K6}(hk:yU k):((Xq k (2^(0-kE k).toNat):Nat):Int)=one k:=by
 rcases hk with rfl |rfl
 ·decide +kernel
 ·decide +kernel
def sp(k:K6):Prop×List D:=(yU k,[.s (.sc (.int .u64 (one k)))])
theorem spec:iU E f129 aE (pG (.pair (sN .u64) (.pair (sN .i64) (.pair (sN .i64) (.pair (sN .i64) (.pair (sN .u64) (sN .u64))))))) sp:=by
 intro k h;have hk:yU k:=h;have hE:-1074<=kE k/\kE k<=0:=by rcases hk with rfl |rfl <;> decide
 refine(start k.1 k.2.1 k.2.2.1 k.2.2.2.1 k.2.2.2.2.1 k.2.2.2.2.2).trans ?_;have w:i64.wrap (0-k.2.2.1)=0-kE k:=wrap_i64 (by show _<=0-kE k;omega) (by show 0-kE k<_;omega);rw[w,gP];show aM (yU k/\_) _=_;have hb:bl (val (dg (2^(0-kE k).toNat)))<=2200:=by
  rw[bD];exact dK.2 (cHX (by decide) (by omega))
 rw[gP ⟨hk,aY _,hb⟩,bD];show some [D.s (S.sc (Value.int .u64 ((Xq k (2^(0-kE k).toNat):Nat):Int)))]=_;rw[aZK hk];rfl
def aI:dJ:=orc1 (pG (.pair (sN .u64) (.pair (sN .i64) (.pair (sN .i64) (.pair (sN .i64) (.pair (sN .u64) (sN .u64))))))) sp
theorem ok:OK 129 aI:=(eB E aE (aA bCM.ok (aA aRJ.ok aC)) func129).oS rfl spec
end tY
namespace Mk
def E:=mE [(218,Norm.aI)] 16 [] [] []
def aE:=bd f179
theorem aT:Nk E aE:=nk
theorem start a b:aF E f179 aE [D.s (sc (bool a)),D.s (ints u32 b)]=letI A:=dg (val b);aM (bZ b/\b.length<=4398046511104) (aB a (some [D.agg [sc (bool (decide (0<(A.length:Int)))),ints u32 A]]) (some [D.agg [sc (bool false),ints u32 A]])):=eJ aT
def sp(b:Bool)(m:List Int):Prop×List D:=(bZ m/\m.length<=4398046511104,[zD (zs b (val m))])
theorem spec:fL E f179 aE pB (pI .u32) sp:=by
 intro b m h;refine(start b m).trans ((gP h).trans ?_);unfold sp;simp only[bEH];cases b with
 |false=>rfl
 |true =>
  rw[bT];have:decide (0<((dg (val m)).length:Int))=decide (val m≠0):=by
   by_cases h:val m=0
   ·rw[h,cB];rfl
   ·rw[decide_eq_true h,decide_eq_true];have:(dg (val m)).length≠0:=fun hh=>h (gM.1 hh)
    omega
  rw[this];rfl
def aI:dJ:=orc2 pB (pI .u32) sp
theorem ok:OK 179 aI:=(eB E aE (aA Norm.ok aC) func179).lF rfl spec
end Mk
namespace aDY
def E:=mE [(128,aSB.aI),(216,zY.aI),(185,Ca.aI),(215,bEE.aI),(179,Mk.aI)] 30 [] [] []
def aE:=bd f177
theorem aT:Nk E aE:=nk
theorem start a c d e f g b:aF E f177 aE [D.agg [sc (int u64 a),sc (int i64 c),sc (int i64 d),sc (int i64 e),sc (int u64 f),sc (int u64 g)],D.s (sc (int u64 b))]=letI C:=(a,c,d,e,f,g);letI F:=kE C+(↑(tP C (b%a).toNat):Int)-d;letI B:=(↑(uV C (b%a).toNat):Int);letI H:=dg B.toNat;letI A:=dg (val H*(2:Nat)^(i64.wrap F).toNat);letI G:=zs (decide (a<=b)) (val A);aM (yU C/\0<=b) (aM (yU C/\0<=b%a/\b%a<9223372036854775808) (aM (0<=B/\B<(18446744073709551616:Int)) (aM (cG H/\H.length<=1099511627776/\i64.wrap F<=1099511627776) (aM (bZ A/\A.length<=4398046511104) (some [D.agg [sc (bool (isNeg G)),ints u32 (dg G.natAbs)]]))))):=eJ aT
def sp(k:K6)(b:Int):Prop×List D:=(yU k/\0<=b/\b<18446744073709551616/\b%k.1<=kI k+1,[zD (zs (decide (k.1<=b)) (nU k (b%k.1).toNat))])
theorem gen{k:K6}(hk:yU k)(h:Nat)(hh:kH k=h)(h1:1<h)(h2:h<=4503599627370496)(hS:0<k.1)(bOS:k.1<=9223372036854775808)(hI:kI k+1<2200*h)(b:Int)(hb:0<=b)(bKE:b%k.1<=kI k+1) :
  aF E f177 aE [(pG (.pair (sN .u64) (.pair (sN .i64) (.pair (sN .i64) (.pair (sN .i64) (.pair (sN .u64) (sN .u64))))))).put k,(pN .u64).put b]=some (sp k b).2:=by
 refine(start k.1 k.2.1 k.2.2.1 k.2.2.2.1 k.2.2.2.2.1 k.2.2.2.2.2 b).trans ?_;show _=some [zD (zs (decide (k.1<=b)) (nU k (b%k.1).toNat))];have Sq:=cKI b (show k.1≠0 by omega);have bJV:=cKJ b hS;have Zb:yU (k.1,k.2.1,k.2.2.1,k.2.2.2.1,k.2.2.2.2.1,k.2.2.2.2.2):=hk;have bTA:k.2.2.1=kE k:=rfl;have ek:(k.1,k.2.1,k.2.2.1,k.2.2.2.1,k.2.2.2.2.1,k.2.2.2.2.2)=k:=rfl;rw[ek,bTA];generalize hs:(b%k.1).toNat=s;have hq:s/h<2200:=by apply cGY;rw[cGC];omega
 have hx:tP k s<=2200:=by unfold tP;rw[hh];omega
 have hp:uV k s<9007199254740992:=by
  unfold uV;rw[hh];split
  ·rename_i h0;have:=(cKS (by omega:0<h)).1 h0;omega
  ·have:=Nat.mod_lt s (show 0<h by omega);omega
 have l0:(dg (uV k s)).length<=2:=dP (by omega);have l1:=aCK (uV k s) (tP k s);have ew:i64.wrap (kE k+(tP k s:Int)-kE k)=(tP k s:Int):=by rw[wrap_i64];omega
 rw[gP ⟨hk,hb⟩,gP ⟨hk,Sq,by omega⟩,gP ⟨by omega,by omega⟩,ew,cFB,cFB,gP ⟨aY _,by omega,by omega⟩,bD,gP ⟨gH _,by omega⟩,bD];rfl
theorem spec:fL E f177 aE (pG (.pair (sN .u64) (.pair (sN .i64) (.pair (sN .i64) (.pair (sN .i64) (.pair (sN .u64) (sN .u64))))))) (pN .u64) sp:=by
 rintro k b ⟨hk,hb,tR,hi⟩;rcases hk with rfl |rfl
 ·exact gen (.inl rfl) _ zY.aUJ (by omega) (by omega) (by simp[kf]) (by simp[kf]) (by simp[kI,kf]) b hb hi
 ·exact gen (.inr rfl) _ zY.aUK (by omega) (by omega) (by simp[kf]) (by simp[kf]) (by simp[kI,kf]) b hb hi
def aI:dJ:=orc2 (pG (.pair (sN .u64) (.pair (sN .i64) (.pair (sN .i64) (.pair (sN .i64) (.pair (sN .u64) (sN .u64))))))) (pN .u64) sp
theorem ok:OK 177 aI:=(eB E aE (aA aSB.ok (aA zY.ok (aA Ca.ok (aA bEE.ok (aA Mk.ok aC))))) func177).lF rfl spec
end aDY
end W
end Go.Proofs.YtplagoepbghhpaaGreatDoor
end
