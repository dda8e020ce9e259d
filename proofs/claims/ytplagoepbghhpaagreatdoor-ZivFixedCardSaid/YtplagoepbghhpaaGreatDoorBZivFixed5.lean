/- Contracts. -/
import Derived.RangeFuncFrom
import Derived.RangeFuncLeaves
import Derived.RangeFuncCalls
import Derived.Shelf.Abstract
import Derived.WalkKit
import Derived.OwnWalkIn
import Derived.TacticsInMore
import Derived.LoopNIn
import Derived.LoopIn
import Derived.ProofKit
import Derived.OpenShut
import Derived.Carry
import Derived.LaidMore
import Derived.MakeChecks
import Derived.Test.YtplagoepbghhpaaGreatDoorBZivFixed4
set_option linter.unusedVariables false
set_option linter.unusedSimpArgs false
set_option exponentiation.threshold 10000000
noncomputable section
open Go.IntKind(i8 i16 i32 i64 u8 u16 u32 u64)
open Go.Proofs.Tryz
open Rat renaming le_of_lt->bZY,intCast_natCast->cFX,le_refl->cAZ,le_trans->bZW,intCast_add->cHP,mul_assoc->cFV,zero_mul->cJO,intCast_neg->cHO,one_mul->cJP,intCast_sub->cIS,mul_le_mul_of_nonneg_right->cJQ
open Nat renaming le_trans->bVN,le_refl->bUR,pow_succ->bZQ,pow_pos->bXR,reduceAdd->cJK,reduceSub->cJL,pow_add->bZS,zero_le->cAS,le_succ->cHR
open Int renaming toNat->cIT,toNat_natCast->bYO,eq_ofNat_of_zero_le->bZV,mul_assoc->cAY,emod_nonneg->cDN,natAbs_neg->cBC,natAbs_natCast->cAH
open List renaming nil_append->bYU,cons_append->bWK,size_toArray->bWH,length_cons->bYC,length_nil->bYD,push_toArray->cJM,append_toArray->cJN,getElem?_eq_getElem->bVI,getElem?_map->bUV,ext_getElem?->bYQ
open Bool renaming true_and->bXT,false_and->cAA,false_or->bWS,and_eq_true->bUX,not_true->bWR
namespace Go.Proofs.YtplagoepbghhpaaGreatDoor
namespace M
open Go AI W
theorem aOO{a b:Nat}{p:Int}(hp:1<=p)(ha:a≠0)(hb:b≠0):p+3<=(bl (cB.Uf a b (cB.Br p a b)):Nat):=by
 have h1:=Wb ha;have h2:=vD b;have b0:=pA ha;have key:2^(p+1).toNat<=a*2^(cB.Br p a b)/b:=by
  rw[Nat.le_div_iff_mul_le (by omega)];have e1:2^(p+1).toNat*b<=2^((p+1).toNat+bl b):=by rw[bZS];exact Nat.mul_le_mul_left _ (Nat.le_of_lt h2)
  have e2:2^(bl a-1+cB.Br p a b)<=a*2^(cB.Br p a b):=by rw[bZS];exact Nat.mul_le_mul_right _ h1
  have e3:2^((p+1).toNat+bl b)<=2^(bl a-1+cB.Br p a b):=Nat.pow_le_pow_right (by decide) (by unfold cB.Br;omega);omega
 have:2^(p+2).toNat<=cB.Uf a b (cB.Br p a b):=by
  have e:2^(p+2).toNat=2^(p+1).toNat*2:=by rw[<-bZQ];congr 1;omega
  unfold cB.Uf;rw[e];generalize a*2^(cB.Br p a b)/b=Q at *;omega
 have:=(qG (n:=cB.Uf a b (cB.Br p a b)) (k:=(p+2).toNat)).2 this;omega
theorem Qe(b:Bool)(n:Nat):(zs b n:Rat)=(if b then -1 else 1)*(n:Rat):=by
 cases b
 ·show((n:Int):Rat)=_;rw[cFX];simp
 ·show((-(n:Int):Int):Rat)=_;rw[cHO,cFX,if_pos rfl];grind
theorem aRL(z:Int):zs (isNeg z) z.natAbs=z:=by
 cases h:isNeg z with
 |true=>have:=nJ.1 h;show -(z.natAbs:Int)=z;omega
 |false=>have:=iM.1 h;show(z.natAbs:Int)=z;omega
theorem Il(up:Bool){x y:Int×Int}{p:Int}{q:Rat}(hp:1<=p)(hy:y.1≠0)(hq:q*R.qz y=R.qz x) :
  (up=false->R.qz (aN (cB.uJ up p x y).1 (cB.uJ up p x y).2)<=q/\q<=R.qz (aN (cB.uJ up p x y).1 (cB.uJ up p x y).2)+R.pz (2-p)*R.ab q) /\
  (up=true->q<=R.qz (aN (cB.uJ up p x y).1 (cB.uJ up p x y).2)/\R.qz (aN (cB.uJ up p x y).1 (cB.uJ up p x y).2)<=q+R.pz (2-p)*R.ab q):=by
 rw[oH];unfold cB.uJ cB.aZH;dsimp only;obtain⟨v,v1,v2,v3⟩:=aON (a:=x.1.natAbs) (b:=y.1.natAbs) (s:=cB.Br p x.1.natAbs y.1.natAbs) (by omega);have bEZ:=aOO (a:=x.1.natAbs) (b:=y.1.natAbs) hp;have bUJ:=R.aM q;generalize hs:cB.Br p x.1.natAbs y.1.natAbs=s at *;generalize hQ:cB.Uf x.1.natAbs y.1.natAbs s=Q at *;obtain⟨e,he⟩:∃e,e=x.2-y.2-(s:Int)-1:=⟨_,rfl⟩;rw[<-he];have pe:=R.dC e;have vq:q=(if(isNeg x.1 !=isNeg y.1)then -1 else 1)*v*R.pz e:=by
  have aSK:(x.1:Rat)=(if isNeg x.1 then -1 else 1)*(x.1.natAbs:Rat):=by rw[<-Qe,aRL]
  have aJQ:(y.1:Rat)=(if isNeg y.1 then -1 else 1)*(y.1.natAbs:Rat):=by rw[<-Qe,aRL]
  have bOB:R.qz y≠0:=aRW hy;have ex:R.pz x.2=2*((2^s:Nat):Rat)*R.pz e*R.pz y.2:=by
   have:x.2=e+y.2+(s:Int)+1:=by omega
   rw[this,R.kF,R.dX,R.jI];grind
  have e2:((if(isNeg x.1 !=isNeg y.1)then -1 else 1)*v*R.pz e)*R.qz y=R.qz x:=by
   unfold R.qz;rw[ex,aSK,aJQ];have:v*(y.1.natAbs:Rat)=2*((x.1.natAbs:Rat)*((2^s:Nat):Rat)):=v1;cases isNeg x.1 <;> cases isNeg y.1 <;> simp <;> grind
  have e3:(q-(if(isNeg x.1 !=isNeg y.1)then -1 else 1)*v*R.pz e)*R.qz y=0:=by grind
  rcases Rat.mul_eq_zero.1 e3 with h |h
  ·grind
  ·exact absurd h bOB
 obtain⟨w,hw⟩:∃w,w=(if(isNeg x.1 !=isNeg y.1)then(-1:Rat)else 1)*v:=⟨_,rfl⟩;rw[<-hw]at vq;obtain⟨z,hz⟩:∃z,z=zs (isNeg x.1 !=isNeg y.1) Q:=⟨_,rfl⟩;rw[<-hz];have bGJ:(z:Rat)=w\/(z%2=1/\(z:Rat)-1<w/\w<(z:Rat)+1):=by
  rw[hz,Qe,hw];rcases v3 with h |⟨h1,h2,h3⟩
  ·left;rw[h]
  ·right;refine⟨?_,?_⟩
   ·cases (isNeg x.1 !=isNeg y.1)
    ·show((Q:Nat):Int)%2=1;omega
    ·show(-(Q:Int))%2=1;omega
   ·cases (isNeg x.1 !=isNeg y.1) <;> simp <;> constructor <;> grind
 have za:z.natAbs=Q:=by rw[hz];exact lP _ _
 have bUI:R.ab q=R.ab w*R.pz e:=by rw[vq,R.fJ,R.bG (bZY pe)]
 have bNG:=R.dC (2-p);unfold cD.nO
 by_cases c:(bl z.natAbs:Int)-p<=0
 ·rw[if_pos c];dsimp only;have aZZ:(z:Rat)=w:=by
   rcases bGJ with h |⟨h,_⟩
   ·exact h
   ·exfalso;have Tm:x.1.natAbs≠0:=by
     intro h0;rw[h0]at hQ;have:Q=0:=by
      rw[<-hQ];unfold cB.Uf;rw[Nat.zero_mul,Nat.zero_div,Nat.zero_mod,if_pos rfl]
     omega
    have:=bEZ Tm (by omega);rw[za]at c;omega
  have:=R.aF (bZY bNG) bUJ;rw[aZZ,<-vq];constructor <;> (intro _;constructor <;> grind)
 ·rw[if_neg c];dsimp only;obtain⟨k,hk⟩:=bZV (show 0<=(bl z.natAbs:Int)-p by omega);rw[hk,bYO,R.dX];obtain⟨c1,c2⟩:=aQU up (z:=z) (v:=w) (k:=k) (by omega) bGJ;have lit:((2^k:Nat):Rat)<=R.pz (2-p)*R.ab w:=by
   have aEJ:z≠0:=by intro h0;rw[h0]at c;exact c (by show(bl 0:Int)-p<=0;rw[Sh];omega)
   have t1:=(oG (p:=(z,0)) aEJ).1;have ez:R.qz (z,0)=(z:Rat):=by unfold R.qz;dsimp only;rw[R.fQ];grind
   rw[ez]at t1;have et:bA (z,0)=(bl z.natAbs:Int)-1:=by unfold bA;dsimp only;omega
   rw[et]at t1;have b2:2<=bl z.natAbs:=by omega
   have aw:R.ab (z:Rat)-1<=R.ab w:=by
    rcases bGJ with h |⟨_,h1,h2⟩
    ·rw[h];grind
    ·have:=R.Sn w ((z:Rat)-w);have:R.ab ((z:Rat)-w)<=1:=by rw[R.bW];constructor <;> grind
     have:w+((z:Rat)-w)=(z:Rat):=by grind
     grind
   have e1:R.pz ((bl z.natAbs:Int)-1)=2*R.pz ((bl z.natAbs:Int)-2):=by rw[<-R.kF];congr 1;omega
   have e2:1<=R.pz ((bl z.natAbs:Int)-2):=by rw[<-R.fQ];exact R.bV (by omega)
   have e3:((2^k:Nat):Rat)=R.pz (2-p)*R.pz ((bl z.natAbs:Int)-2):=by rw[<-R.jI,<-R.lT,<-hk];congr 1;omega
   rw[e3];have:=R.aF (bZY bNG) (show 0<=R.ab w-R.pz ((bl z.natAbs:Int)-2) by grind);grind
  rw[bUI,vq];have l2:=R.aF (bZY pe) (show 0<=R.pz (2-p)*R.ab w-((2^k:Nat):Rat) by grind);generalize (kD.oZ up z k:Rat)=cz at *;generalize ((2^k:Nat):Rat)=K at *;generalize R.pz (2-p)=P2 at *;generalize R.pz e=E at *;generalize R.ab w=aw at *;constructor
  ·intro hu;obtain⟨d1,d2⟩:=c1 hu;have m1:=R.aF (bZY pe) (show 0<=w-cz*K by grind);have m2:=R.aF (bZY pe) (show 0<=cz*K+K-w by grind);constructor <;> grind
  ·intro hu;obtain⟨d1,d2⟩:=c2 hu;have m1:=R.aF (bZY pe) (show 0<=cz*K-w by grind);have m2:=R.aF (bZY pe) (show 0<=w+K-cz*K by grind);constructor <;> grind
theorem aTV(up:Bool){x y:Int×Int}{p:Int}(hp:1<=p/\p<=70000)(bx:bl x.1.natAbs<=100000)(b_y:bl y.1.natAbs<=100000)(ex:-110000<=x.2/\x.2<=1000)(ey:-110000<=y.2/\y.2<=1000) :
  gT (cB.uJ up p x y).1 (cB.uJ up p x y).2=true/\bl (aN (cB.uJ up p x y).1 (cB.uJ up p x y).2).1.natAbs<=70001:=by
 unfold cB.uJ cB.aZH;dsimp only;have hs:cB.Br p x.1.natAbs y.1.natAbs<=170002:=by unfold cB.Br;omega
 have hQ:bl (cB.Uf x.1.natAbs y.1.natAbs (cB.Br p x.1.natAbs y.1.natAbs))<=270006:=by
  have h1:bl (x.1.natAbs*2^(cB.Br p x.1.natAbs y.1.natAbs))<=270002:=bVN (bQ.Iz bx) (by omega);have h2:cB.Uf x.1.natAbs y.1.natAbs (cB.Br p x.1.natAbs y.1.natAbs)<=x.1.natAbs*2^(cB.Br p x.1.natAbs y.1.natAbs)*2+1:=by
   have:x.1.natAbs*2^(cB.Br p x.1.natAbs y.1.natAbs)/y.1.natAbs<=x.1.natAbs*2^(cB.Br p x.1.natAbs y.1.natAbs):=Nat.div_le_self _ _;unfold cB.Uf;generalize x.1.natAbs*2^(cB.Br p x.1.natAbs y.1.natAbs)/y.1.natAbs=A at *;generalize x.1.natAbs*2^(cB.Br p x.1.natAbs y.1.natAbs)=B at *;split <;> omega
  refine bVN (fX h2) (bVN (Bh _ _) ?_);have h3:=Pt (x.1.natAbs*2^(cB.Br p x.1.natAbs y.1.natAbs)) 2;have h4:bl 2=2:=rfl;have h5:bl 1=1:=rfl;omega
 generalize cB.Br p x.1.natAbs y.1.natAbs=s at *;generalize cB.Uf x.1.natAbs y.1.natAbs s=Q at *;have hz:(zs (isNeg x.1 !=isNeg y.1) Q).natAbs=Q:=lP _ _;rw[<-hz]at hQ;generalize zs (isNeg x.1 !=isNeg y.1) Q=z at *;unfold cD.nO;split
 ·dsimp only;exact⟨gO (by omega) (by omega),bVN (vB _ _) (by omega)⟩
 ·dsimp only;have hc:=Zk up z ((bl z.natAbs:Int)-p).toNat p.toNat (by omega);generalize kD.oZ up z ((bl z.natAbs:Int)-p).toNat=c at *;exact⟨gO (by omega) (by omega),bVN (vB _ _) (by omega)⟩
theorem Vt{a b u v S C V ρ m q1 q2:Rat}(ha:a+m<=S)(hb:S+m<=b)(aSX:b-a<=ρ*S)(hu:u+m<=C)(hv:C+m<=v)(huv:v-u<=ρ*C)(m0:0<=m)(S0:0<S)(C0:0<C)(C1:C<=1)(r0:0<=ρ)(r1:ρ<=1/64)(hV:V*C=S)(h1:q1*v=a)(h2:q2*u=b) :
  q1+m<=V/\V+m<=q2/\q2<=V+3*ρ*V/\V-2*ρ*V<=q1/\0<V/\0<=q1:=by
 have rS:=R.aF (bZY S0) (show 0<=1/64-ρ by grind);have rC:=R.aF (bZY C0) (show 0<=1/64-ρ by grind);have a0:0<a:=by grind
 have u0:0<u:=by grind
 have v0:0<v:=by grind
 have V0:0<V:=by
  refine Rat.not_le.1 fun hn=>?_
  have:=R.aF (show 0<=-V by grind) (bZY C0);grind
 have bFL:0<q1:=by
  refine Rat.not_le.1 fun hn=>?_
  have:=R.aF (show 0<=-q1 by grind) (bZY v0);grind
 have bON:0<q2:=by
  refine Rat.not_le.1 fun hn=>?_
  have:=R.aF (show 0<=-q2 by grind) (bZY u0);grind
 have mC:=R.aF m0 (show 0<=1-C by grind);have rV:=R.aF r0 (bZY V0);have bKU:=R.aF rV (bZY C0);have rr:=R.aF bKU (show 0<=1/64-ρ by grind);have rq:=R.aF bKU r0;refine⟨?_,?_,?_,?_,V0,bZY bFL⟩
 ·refine R.bS C0 ?_;have:=R.aF (bZY bFL) (show 0<=v-C by grind);grind
 ·refine R.bS C0 ?_;have:=R.aF (bZY bON) (show 0<=C-u by grind);grind
 ·refine R.bS u0 ?_;have h:=R.aF (show 0<=V+3*ρ*V by grind) (show 0<=u-(C-ρ*C) by grind);have e:(V+3*ρ*V)*(C-ρ*C)=V*C+2*(ρ*V*C)-3*(ρ*V*C*ρ):=by grind
  have e2:ρ*S=ρ*V*C:=by rw[<-hV];grind
  grind
 ·refine R.bS v0 ?_;have h:=R.aF (show 0<=V-2*ρ*V by have:=R.aF (bZY V0) (show 0<=1/64-ρ by grind);grind) (show 0<=(C+ρ*C)-v by grind);have e:(V-2*ρ*V)*(C+ρ*C)=V*C-ρ*V*C-2*(ρ*V*C*ρ):=by grind
  have e2:ρ*S=ρ*V*C:=by rw[<-hV];grind
  grind
theorem aDG{p:Int×Int}:decide (eB p (0,0)<0)=decide (R.qz p<0):=by
 have h:=Bg (p:=p) (q:=(0,0));rw[R.oC (p:=(0,0)) rfl]at h
 by_cases c:R.qz p<0
 ·rw[decide_eq_true c,decide_eq_true (h.2 c)]
 ·rw[decide_eq_false c,decide_eq_false fun hh=>c (h.1 hh)]
def Hw(p:Int×Int):Prop:=bl p.1.natAbs<=100000/\-110000<=p.2/\p.2<=1000
theorem yY{p:Int×Int}(hb:bl p.1.natAbs<=100000)(zP:p.1≠0)(h0:R.pz (-1300)<=R.ab (R.qz p))(h1:R.ab (R.qz p)<=2):Hw p:=by
 have a:=Cg zP h0;have b:bA p<=1:=Df zP (by rw[R.aIO];exact h1);have c:=pA (n:=p.1.natAbs) (by omega);unfold bA at a b;exact⟨hb,by omega,by omega⟩
theorem aBP{s c:(Int×Int)×(Int×Int)}{S C V ρ m:Rat}{p:Int}(hs:Bx s S (ρ*R.ab S) m)(hc:Bx c C (ρ*R.ab C) m)(S0:S≠0)(C0:0<C)(C1:C<=1)(r0:0<=ρ)(r1:ρ<=1/64)(hV:V*C=S)(hp:4<=p/\p<=70000)
  (z1:Hw s.1) (z2:Hw s.2) (z3:Hw c.1) (z4:Hw c.2) :
  gT (iQ.aGF p s.1 c.1 c.2).1 (iQ.aGF p s.1 c.1 c.2).2=true/\gT (iQ.aGG p s.2 c.1 c.2).1 (iQ.aGG p s.2 c.1 c.2).2=true /\
  Bx (aN (iQ.aGF p s.1 c.1 c.2).1 (iQ.aGF p s.1 c.1 c.2).2,aN (iQ.aGG p s.2 c.1 c.2).1 (iQ.aGG p s.2 c.1 c.2).2) V ((5*ρ+3*R.pz (2-p))*R.ab V) m:=by
 obtain⟨s1,s2,s3,s4,m0,s6,s7,s8⟩:=hs;obtain⟨c1,c2,c3,c4,_,c6,c7,c8⟩:=hc;rw[R.bG (bZY C0)]at c8;have rC:=R.aF (bZY C0) (show 0<=1/64-ρ by grind);have u0:0<R.qz c.1:=by grind
 have v0:0<R.qz c.2:=by grind
 have un:c.1.1≠0:=Hd (by grind);have vn:c.2.1≠0:=Hd (by grind);have e2:=R.dC (2-p);have e3:R.pz (2-p)<=1/4:=by
  have h:=R.bV (show 2-p<=-2 by omega);have h2:=R.xG 2;rw[show -((2:Nat):Int)=-2 by rfl]at h2;rw[h2]at h;have h3:R.hf 2=1/4:=by simp[R.hf];grind
  grind
 have uZ:∀up (x y:Int×Int),Hw x->Hw y->gT (cB.uJ up p x y).1 (cB.uJ up p x y).2=true/\jJ (aN (cB.uJ up p x y).1 (cB.uJ up p x y).2)/\bl (aN (cB.uJ up p x y).1 (cB.uJ up p x y).2).1.natAbs<=100000:=by
  intro up x y hx hy;obtain⟨h1,h2⟩:=aTV up (x:=x) (y:=y) (p:=p) (by omega) hx.1 hy.1 hx.2 hy.2;refine⟨h1,⟨by omega,?_,fun h=>Cm h,fun h=>Dn h⟩,by omega⟩;unfold gT at h1;unfold aN;split
  ·dsimp only;omega
  ·rename_i zP;rw[decide_eq_false zP,bWS,bUX]at h1;exact⟨of_decide_eq_true h1.1,of_decide_eq_true h1.2⟩
 have aLP:∀a b:Rat,b≠0->a/b*b=a:=fun a b h=>by grind
 unfold iQ.aGF iQ.aGG;rw[aDG,aDG]
 by_cases hS:0<S
 ·rw[R.bG (bZY hS)]at s8;have rS:=R.aF (bZY hS) (show 0<=1/64-ρ by grind);rw[decide_eq_false (show ¬R.qz s.1<0 by grind),decide_eq_false (show ¬R.qz s.2<0 by grind),cond_false,cond_false];obtain⟨d1,d2,d3,d4,V0,q0⟩:=Vt (q1:=R.qz s.1/R.qz c.2) (q2:=R.qz s.2/R.qz c.1) s6 s7 s8 c6 c7 c8 m0 hS C0 C1 r0 r1 hV (aLP _ _ (by grind)) (aLP _ _ (by grind));have n1:=(Il false (x:=s.1) (y:=c.2) (p:=p) (q:=R.qz s.1/R.qz c.2) (by omega) vn (aLP _ _ (by grind))).1 rfl;have n2:=(Il true (x:=s.2) (y:=c.1) (p:=p) (q:=R.qz s.2/R.qz c.1) (by omega) un (aLP _ _ (by grind))).2 rfl;obtain⟨i1,p1,b1⟩:=uZ false s.1 c.2 z1 z4;obtain⟨i2,p2,b2⟩:=uZ true s.2 c.1 z2 z3;rw[R.bG q0]at n1;rw[R.bG (show 0<=R.qz s.2/R.qz c.1 by grind)]at n2;refine⟨i1,i2,p1,p2,b1,b2,m0,by grind,by grind,?_⟩;rw[R.bG (bZY V0)];generalize R.qz s.1/R.qz c.2=q1 at *;generalize R.qz s.2/R.qz c.1=q2 at *;have k1:=R.aF (bZY e2) (show 0<=V+3*ρ*V-q2 by grind);have k2:=R.aF (bZY e2) (show 0<=V-q1 by grind);have k3:=R.aF (R.aF (bZY e2) (bZY V0)) (show 0<=1/64-ρ by grind);dsimp only;grind
 ·have bMU:0 < -S:=by grind
  have eS:R.ab S=-S:=by unfold R.ab;rw[if_neg (by grind)]
  rw[eS]at s8;have rS:=R.aF (bZY bMU) (show 0<=1/64-ρ by grind);rw[decide_eq_true (show R.qz s.1<0 by grind),decide_eq_true (show R.qz s.2<0 by grind),cond_true,cond_true];have f1:-(R.qz s.2/R.qz c.2)*R.qz c.2=-R.qz s.2:=by have:=aLP (R.qz s.2) (R.qz c.2) (by grind);grind
  have f2:-(R.qz s.1/R.qz c.1)*R.qz c.1=-R.qz s.1:=by have:=aLP (R.qz s.1) (R.qz c.1) (by grind);grind
  obtain⟨d1,d2,d3,d4,V0,q0⟩:=Vt (V:=-V) (a:=-R.qz s.2) (b:=-R.qz s.1) (S:=-S) (q1:=-(R.qz s.2/R.qz c.2)) (q2:=-(R.qz s.1/R.qz c.1)) (by grind) (by grind) (by grind) c6 c7 c8 m0 bMU C0 C1 r0 r1 (by grind) f1 f2;have n1:=(Il false (x:=s.1) (y:=c.1) (p:=p) (q:=R.qz s.1/R.qz c.1) (by omega) un (aLP _ _ (by grind))).1 rfl;have n2:=(Il true (x:=s.2) (y:=c.2) (p:=p) (q:=R.qz s.2/R.qz c.2) (by omega) vn (aLP _ _ (by grind))).2 rfl;obtain⟨i1,p1,b1⟩:=uZ false s.1 c.1 z1 z3;obtain⟨i2,p2,b2⟩:=uZ true s.2 c.2 z2 z4;rw[<-R.iI,R.bG (show 0<=-(R.qz s.1/R.qz c.1) by grind)]at n1;rw[<-R.iI,R.bG q0]at n2;refine⟨i1,i2,p1,p2,b1,b2,m0,by grind,by grind,?_⟩;rw[<-R.iI,R.bG (bZY V0)];generalize R.qz s.2/R.qz c.2=q1 at *;generalize R.qz s.1/R.qz c.1=q2 at *;have k1:=R.aF (bZY e2) (show 0<=-V+3*ρ*-V+q2 by grind);have k2:=R.aF (bZY e2) (show 0<=-V+q1 by grind);have k3:=R.aF (R.aF (bZY e2) (bZY V0)) (show 0<=1/64-ρ by grind);dsimp only;grind
theorem Ib{p:Int×Int}(h:Hw p):Hw (jY.wI p):=by
 obtain⟨a,b⟩:=h;refine⟨?_,b⟩;show bl (-p.1).natAbs<=_;rw[cBC];exact a
theorem Xy{a b:Int×Int}(h:0<R.qz a)(aSX:R.qz a<=R.qz b):fL.sF a b=1:=by
 unfold fL.sF;have z:R.qz (0,0)=0:=R.oC rfl;rw[if_neg (fun hh=>by have:=Bg.1 hh;grind),if_pos (xQ.2 (by grind))]
theorem Xz{a b:Int×Int}(h:R.qz b<0):fL.sF a b=-1:=by
 unfold fL.sF;have z:R.qz (0,0)=0:=R.oC rfl;rw[if_pos (Bg.2 (by grind))]
theorem aIN{s c:(Int×Int)×(Int×Int)}{S C V ρ m:Rat}{p:Int}(hs:Bx s S (ρ*R.ab S) m)(hc:Bx c C (ρ*R.ab C) m)(S0:S≠0)(C0:C≠0)(C1:R.ab C<=1)(r0:0<=ρ)(r1:ρ<=1/64)(hV:V*C=S)(hp:4<=p/\p<=70000)
  (z1:Hw s.1) (z2:Hw s.2) (z3:Hw c.1) (z4:Hw c.2) :
  fL.sF c.1 c.2≠0/\gT (iQ.Ka p s.1 s.2 c.1 c.2).1 (iQ.Ka p s.1 s.2 c.1 c.2).2=true/\gT (iQ.Kb p s.1 s.2 c.1 c.2).1 (iQ.Kb p s.1 s.2 c.1 c.2).2=true /\
  Bx (aN (iQ.Ka p s.1 s.2 c.1 c.2).1 (iQ.Ka p s.1 s.2 c.1 c.2).2,aN (iQ.Kb p s.1 s.2 c.1 c.2).1 (iQ.Kb p s.1 s.2 c.1 c.2).2) V ((5*ρ+3*R.pz (2-p))*R.ab V) m:=by
 have lo:=hc.lo;have hi:=hc.hi;have m0:=hc.m0;have wd:=hc.wd
 by_cases c0:0<C
 ·rw[R.bG (bZY c0)]at C1 wd;have rC:=R.aF (bZY c0) (show 0<=1/64-ρ by grind);have sg:=Xy (a:=c.1) (b:=c.2) (by grind) (by grind);unfold iQ.Ka iQ.Kb;rw[sg,show((1:Int)==-1)=false from rfl];simp only[cond_false];exact⟨by decide,aBP hs hc S0 c0 C1 r0 r1 hV hp z1 z2 z3 z4⟩
 ·have e:R.ab C=-C:=by unfold R.ab;rw[if_neg (by grind)]
  rw[e]at C1 wd;have rC:=R.aF (show 0<=-C by grind) (show 0<=1/64-ρ by grind);have sg:=Xz (a:=c.1) (b:=c.2) (by grind);unfold iQ.Ka iQ.Kb;rw[sg,show((-1:Int)==-1)=true from rfl];simp only[cond_true];have rL:=hs.neg;have bIQ:=hc.neg;rw[<-R.iI]at rL bIQ;have s0:-S≠0:=by grind
  have c1:0 < -C:=by grind
  have v1:V*-C=-S:=by grind
  have q:=aBP rL bIQ s0 c1 C1 r0 r1 v1 hp (Ib z2) (Ib z1) (Ib z4) (Ib z3);dsimp only at q;exact⟨by decide,q⟩
theorem aBW{s:(Int×Int)×(Int×Int)}{V W m:Rat}{n:Int}(pl:jJ s.1)(ph:jJ s.2)(m0:0<=m)(lo:R.qz s.1+m<=V)(hi:V+m<=R.qz s.2)(wd:R.qz s.2-R.qz s.1<=W)(hn:1<=n/\n<=70000)(h1:R.ab (R.qz s.1)<=R.pz 1100)(h2:R.ab (R.qz s.2)<=R.pz 1100) :
  wZ false s.1 n=true/\wZ true s.2 n=true/\Bx (shD false s.1 n,shD true s.2 n) V (W+R.pz (1-n)*(R.ab (R.qz s.1)+R.ab (R.qz s.2))) m:=by
 have aSE:∀{p:Int×Int},jJ p->R.ab (R.qz p)<=R.pz 1100->bFC p:=by
  intro p hp hv;refine⟨hp,?_⟩
  by_cases h0:p.1=0
  ·have hb:M.bl p.1.natAbs=0:=by rw[h0];rfl
   have:=hp.2.2.1 h0;omega
  ·have:=Df h0 hv;unfold bA at this;omega
 obtain⟨a1,a2⟩:=Oo (up:=false) (n:=n) (aSE pl h1) hn.1;obtain⟨a3,a4⟩:=Oo (up:=true) (n:=n) (aSE ph h2) hn.1;have n1:=(Fc false s.1 hn.1).1 rfl;have n2:=(Fc true s.2 hn.1).2 rfl;have b1:=yZ false s.1 n.toNat;have b2:=yZ true s.2 n.toNat;rw[show((n.toNat:Nat):Int)=n by omega]at b1 b2;exact⟨a1,a3,a2,a4,by dsimp only;omega,by dsimp only;omega,m0,by dsimp only;grind,by dsimp only;grind,by dsimp only;grind⟩
theorem Yi{s:(Int×Int)×(Int×Int)}{V W m:Rat}{n:Int}(h:Bx s V W m)(hn:1<=n/\n<=70000)(h1:R.ab (R.qz s.1)<=R.pz 1100)(h2:R.ab (R.qz s.2)<=R.pz 1100) :
  wZ false s.1 n=true/\wZ true s.2 n=true/\Bx (shD false s.1 n,shD true s.2 n) V (W+R.pz (1-n)*(R.ab (R.qz s.1)+R.ab (R.qz s.2))) m :=
 aBW h.pl h.ph h.m0 h.lo h.hi h.wd hn h1 h2
theorem aOC{a b:Int×Int}{p:Int}(aSX:R.qz a<=R.qz b)(h:(0<R.qz a/\(R.qz b-R.qz a)*R.pz p<=R.qz a)\/(R.qz b<0/\(R.qz b-R.qz a)*R.pz p<=-R.qz b)):En.aXR a b p=true:=by
 unfold En.aXR
 by_cases he:eB a b=0
 ·rw[he];rfl
 ·rw[show(eB a b==0)=false from beq_eq_false_iff_ne.2 he,cond_false];obtain⟨n,hn,sg,hw⟩:∃n:Int×Int,(bif decide (fL.sF a b<0)then b else a)=n/\fL.sF a b≠0/\(n.1≠0/\(R.qz b-R.qz a)*R.pz p<=R.ab (R.qz n)):=by
   rcases h with ⟨h1,h2⟩ |⟨h1,h2⟩
   ·rw[Xy h1 aSX];exact⟨a,rfl,by decide,Hd (by grind),by rw[R.bG (bZY h1)];exact h2⟩
   ·rw[Xz h1];refine⟨b,rfl,by decide,Hd (by grind),?_⟩;have:R.ab (R.qz b)=-R.qz b:=by unfold R.ab;rw[if_neg (by grind)]
    rw[this];exact h2
  rw[show(fL.sF a b==0)=false from beq_eq_false_iff_ne.2 sg,cond_false,hn];have w0:(bI.nC b (-a.1,a.2)).1≠0:=aHZ he;have wq:R.qz (bI.nC b (-a.1,a.2))=R.qz b-R.qz a:=by rw[Qv,oU];grind
  generalize bI.nC b (-a.1,a.2)=w at *;obtain⟨n0,hw⟩:=hw;rw[<-wq]at hw;have wp:0<=R.qz w:=by rw[wq];grind
  obtain⟨t1,t2⟩:=oG w0;obtain⟨u1,u2⟩:=oG n0;rw[R.bG wp]at t1 t2;have pp:=R.dC p
  by_cases ht:bA w+p=bA n
  ·rw[show(bA w+p !=bA n)=false from by rw[ht];exact bne_self_eq_false _,cond_false];refine decide_eq_true (kV.2 ?_);have un:∀x:Int×Int,R.qz (aGE x)*R.pz (bA x)=R.ab (R.qz x):=by
    intro x;rw[Pw];unfold aGE R.qz;dsimp only;rw[cFX,cFV,<-R.jI];congr 2;unfold bA;omega
   have e1:=un w;have e2:=un n;rw[R.bG wp]at e1;rw[<-ht,R.jI]at e2;refine R.bS (q:=R.pz (bA w)*R.pz p) (Rat.mul_pos (R.dC _) pp) ?_;have e3:R.qz (aGE w)*(R.pz (bA w)*R.pz p)=R.qz w*R.pz p:=by rw[<-cFV,e1]
   grind
  ·rw[show(bA w+p !=bA n)=true from bne_iff_ne.2 ht,cond_true];refine decide_eq_true ?_;have:R.pz (bA w+p)<R.pz (bA n+1):=by
    rw[R.jI];have:=R.aF (show 0<=R.qz w-R.pz (bA w) by grind) (bZY pp);grind
   have:=R.wG.1 this;omega
end M
open Go.Value(int bool slice)
open AI.S(sc ints)
namespace W
open Go AI M
namespace qP
def Oi(x:gB):Prop:=aP x/\((dv x).1≠0->eB (((dv x).1.natAbs:Nat),(dv x).2) (1,0)<=0/\-524288<=(dv x).2+(bl (dv x).1.natAbs:Nat)-1)
end qP
namespace pE
def E:=mE [(45,lO.aJ),(158,Hy.aJ),(14,aNF.aJ),(203,Ao.aJ)] 62 [] [(10,[30,31,32]),(4,[1,20,21,22]),(3,[1])] [3]
def aE:=bd f201
theorem aX:Nk E aE:=nk
def J3(a:Nat)(b:Nat->Bool)(c:Nat->List Int)(d:Nat->Int):=mT E f201 aE 3 [(A.v (V.one (L.rows 3 a fun i=>[sc (bool (b i)),ints u64 (c i),sc (int i64 (d i))])),none)]
def L4(a:Nat)(b:Nat->Bool)(c:Nat->List Int)(d:Nat->Int)(e:Nat)(f:Nat->Bool)(g:Nat->List Int)(h:Nat->Int) j k:=sJ E f201 aE 4 [(A.v (V.one (L.rows 3 a fun i=>[sc (bool (b i)),ints u64 (c i),sc (int i64 (d i))])),none),(A.v (V.one (L.rows 3 e fun i=>[sc (bool (f i)),ints u64 (g i),sc (int i64 (h i))])),none),cK j,cK k]
def Gy(a:Nat)(b:Nat->Bool)(c:Nat->List Int)(d:Nat->Int) e f:=sJ E f201 aE 10 [(A.v (V.one (L.rows 3 a fun i=>[sc (bool (b i)),ints u64 (c i),sc (int i64 (d i))])),none),cK e,cK f]
theorem start p (a:gB) (b:gB):aH E f201 aE [D.s (sc (int i64 p)),D.rows 3 2 fun i=>[sc (bool (t2 a b i).fst),ints u64 (t2 a b i).snd.fst,sc (int i64 (t2 a b i).snd.snd)]]=letI A:=some [D.s (sc (int i64 1))];aB (decide (p<1)) A (aB (decide (67000<p)) A (pE.J3 2 (fun i=>(t2 a b i).fst) (fun i=>(t2 a b i).snd.fst) fun i=>(t2 a b i).snd.snd)):=eJ aX
theorem iA a b c d:J3 a b c d=pE.L4 a (fun i=>b i) (fun i=>c i) (fun i=>d i) a (fun i=>b i) (fun i=>c i) (fun i=>d i) (a:Int) 0:=cJ aX
theorem vI a b c d e f g h j k:L4 a b c d e f g h j k=aB (decide (k<j)) (if 0<=k/\k<(e:Int)then aO (aP (f k.toNat,g k.toNat,h k.toNat)) (pE.L4 a (fun i=>b i) (fun i=>c i) (fun i=>d i) e (fun i=>f i) (fun i=>g i) (fun i=>h i) j (i64.wrap (k+1)))else none) (pE.Gy a (fun i=>b i) (fun i=>c i) (fun i=>d i) (a:Int) 0):=lJ aX
theorem qQ a b c d e f:Gy a b c d e f=letI F:=some [D.s (sc (int i64 5))];letI C:=(b f.toNat,c f.toNat,d f.toNat);letI B:=(false,c f.toNat,d f.toNat);letI A:=(isNeg (aN 1 0).fst,M6.dg (aN 1 0).fst.natAbs,(aN 1 0).snd);aB (decide (f<e)) (if 0<=f/\f<(a:Int)then aB ((↑(c f.toNat).length:Int)==(0:Int)) (pE.Gy a (fun i=>b i) (fun i=>c i) (fun i=>d i) e (i64.wrap (f+1))) (aO ((-9223372036854775808:Int)<=(1:Int)/\(1:Int)<(9223372036854775808:Int)) (aO (aP B/\aP A) (aO (aP C) (aB (decide (0<lH (bI.mY (dv B) (dv A)) (bI.mW (dv B) (dv A)))) F (aB (decide ((if(dv C).fst=0 then(0:Int)else d f.toNat+(↑(bl (M6.val (c f.toNat))):Int)-(1:Int))<(-524288:Int))) F (pE.Gy a (fun i=>b i) (fun i=>c i) (fun i=>d i) e (i64.wrap (f+1))))))))else none) (some [D.s (sc (int i64 0))]):=lJ aX
abbrev Oi:=qP.Oi
def sp(p:Int)(a:gB×gB):Prop×List D:=((1<=p/\p<=67000)/\Oi a.1/\Oi a.2,[.s (.sc (.int .i64 0))])
theorem LB(n:Nat)(f:Nat->gB)(hn:n<=1000)(hf:∀i,i<n->Oi (f i)):∀d k:Nat,k+d=n->Gy n (fun i=>(f i).1) (fun i=>(f i).2.1) (fun i=>(f i).2.2) (n:Int) (k:Int)=some [.s (.sc (.int .i64 0))]
 |0,k,h=>by rw[qQ,aL]
 |d+1,k,h=>by
  have e:i64.wrap ((k:Int)+1)=((k+1:Nat):Int):=by rw[wrap_i64];omega
  have r:=LB n f hn hf d (k+1) (by omega);obtain⟨hx,ht⟩:=hf k (by omega);have hz:=M6.dY hx.Hp;have ha:(dv (f k)).1.natAbs=M6.val (f k).2.1:=iF ((f k).1,(f k).2.1);rw[qQ,aQ,aW,bYO,e]
  by_cases h0:(f k).2.1.length=0
  ·rw[cN];exact r
  ·have hv:(dv (f k)).1≠0:=fun hc=>h0 (hz.2 (by omega))
   obtain⟨t1,t2⟩:=ht hv;have n1:aN 1 0=(1,0):=by decide +kernel
   have pn:jJ (1,0):=⟨by decide +kernel,⟨by decide,by decide⟩,fun h=>absurd h (by decide),fun _=>by decide⟩;have v1:=dT ((1,0):Int×Int);have ok:aP (false,(f k).2.1,(f k).2.2):=⟨⟨hx.1.1,fun hf=>(by cases hf),hx.1.len⟩,hx.2⟩;have vx:dv (false,(f k).2.1,(f k).2.2)=((((dv (f k)).1.natAbs:Nat):Int),(dv (f k)).2):=by rw[ha];rfl
   have bRS:((f k).1,(f k).2.1,(f k).2.2)=f k:=rfl;simp only[n1,v1,vx,bRS];rw[bM,gP ⟨by decide,by decide⟩,gP ⟨ok,dJ pn⟩,gP hx];have bOG:¬0<lH (bI.mY ((((dv (f k)).1.natAbs:Nat):Int),(dv (f k)).2) (1,0)) (bI.mW ((((dv (f k)).1.natAbs:Nat):Int),(dv (f k)).2) (1,0)):=Int.not_lt.2 t1;have bOF:¬(f k).2.2+((bl (M6.val (f k).2.1):Nat):Int)-1 < -524288:=by
    rw[ha]at t2;have:(dv (f k)).2=(f k).2.2:=rfl;omega
   rw[aL bOG,if_neg hv,aL bOF];exact r
theorem LA(n:Nat)(f:Nat->gB)(hn:n<=1000)(hf:∀i,i<n->Oi (f i)):∀d k:Nat,k+d=n->L4 n (fun i=>(f i).1) (fun i=>(f i).2.1) (fun i=>(f i).2.2) n (fun i=>(f i).1) (fun i=>(f i).2.1) (fun i=>(f i).2.2) (n:Int) (k:Int)=some [.s (.sc (.int .i64 0))]
 |0,k,h=>by rw[vI,aL];exact LB n f hn hf n 0 (by omega)
 |d+1,k,h=>by
  have e:i64.wrap ((k:Int)+1)=((k+1:Nat):Int):=by rw[wrap_i64];omega
  rw[vI,aQ,aW,bYO,gP (hf k (by omega)).1,e];exact LA n f hn hf d (k+1) (by omega)
theorem spec:gU E f201 aE (pN .i64) (bDU (.pair sB (.pair (sI .u64) (sN .i64))) (false,[],0)) sp:=by
 rintro p a ⟨⟨p0,p1⟩,h⟩;have hf:∀i,i<2->Oi (t2 a.1 a.2 i):=fun i hi=>by
  obtain rfl |rfl:i=0\/i=1:=by omega
  ·exact h.1
  ·exact h.2
 refine(start p a.1 a.2).trans ?_;rw[aL,aL,iA];exact LA 2 (fun i=>t2 a.1 a.2 i) (by decide) hf 2 0 (by omega)
def aJ:dO:=orc2 (pN .i64) (bDU (.pair sB (.pair (sI .u64) (sN .i64))) (false,[],0)) sp
theorem ok:OK 201 aJ:=(fA E aE (aA lO.ok (aA Hy.ok (aA aNF.ok (aA Ao.ok aD)))) func201).mV rfl spec
end pE
namespace Gt
def E:=mE [(67,uU.aJ),(201,pE.aJ)] 21 [20] [(3,[1,2])] [3]
def aE:=bd f156
theorem aX:Nk E aE:=nk
def J3 a b c d e f g:=mT E f156 aE 3 [cK a,dK 1 44 [cU b,fU c,cX d,cU e,fU f,cX g]]
theorem start a c d e f g b:aH E f156 aE [D.agg [sc (bool a),ints u64 c,sc (int i64 d),sc (bool e),ints u64 f,sc (int i64 g)],D.s (sc (int i64 b))]=letI A:=some [D.s (sc (int i64 1))];aB (decide (b<1)) A (aB (decide (67000<b)) A (Gt.J3 b a c d e f g)):=eJ aX
theorem iA a b c d e f g:J3 a b c d e f g=aO (eQ (b,c,d,e,f,g)) (aO ((1<=a/\a<=67000)/\pE.Oi (b,c,d)/\pE.Oi (e,f,g)) (some [D.s (sc (int i64 0))])):=cJ aX
def sp(s:wW)(p:Int):Prop×List D:=((1<=p/\p<=67000)/\eQ s/\qP.Oi (gW s)/\qP.Oi (gX s),[.s (.sc (.int .i64 0))])
theorem spec:gU E f156 aE yH (pN .i64) sp:=by
 rintro s p ⟨⟨p0,p1⟩,h1,h2,h3⟩;refine(start s.1 s.2.1 s.2.2.1 s.2.2.2.1 s.2.2.2.2.1 s.2.2.2.2.2 p).trans ?_;rw[aL,aL]
 first
  |exact(gP h1).trans (gP ⟨⟨p0,p1⟩,h2,h3⟩)
  | (rw[iA];exact(gP h1).trans (gP ⟨⟨p0,p1⟩,h2,h3⟩))
def aJ:dO:=orc2 yH (pN .i64) sp
theorem ok:OK 156 aJ:=(fA E aE (aA uU.ok (aA pE.ok aD)) func156).mV rfl spec
end Gt
namespace cC
def E:=mE [(156,Gt.aJ),(120,Gv.aJ),(158,Hy.aJ),(159,fL.aJ),(160,bC.aJ)] 61 [17] [(10,[1,2,4,9,10]),(13,[1,4,9,10])] [10,13]
def aE:=bd f116
theorem aX:Nk E aE:=nk
def bFE a b c d e f g h i j k l m n o p q:=mT E f116 aE 10 [cK a,dK 1 44 [cU b,fU c,cX d,cU e,fU f,cX g],dK 2 44 [cU h,sc (slice none 0 0),cX i,cU j,sc (slice none 0 0),cX k],dK 3 29 [cU l,fU m,cX n],dK 4 29 [cU o,fU p,cX q]]
def Qb a b c d e f g h i j:=mT E f116 aE 13 [cK a,dK 1 44 [cU b,sc (slice none 0 0),cX c,cU d,sc (slice none 0 0),cX e],dK 2 29 [cU f,sc (slice none 0 0),cX g],dK 3 29 [cU h,fU i,cX j]]
def aXG a b c d e f g h i j k:=mT E f116 aE 13 [cK a,dK 1 44 [cU b,sc (slice none 0 0),cX c,cU d,sc (slice none 0 0),cX e],dK 2 29 [cU f,fU g,cX h],dK 3 29 [cU i,fU j,cX k]]
theorem start a c d e f g b:aH E f116 aE [D.agg [sc (bool a),ints u64 c,sc (int i64 d),sc (bool e),ints u64 f,sc (int i64 g)],D.s (sc (int i64 b))]=letI C:=(false,f,g);letI B:=(false,c,d);letI A:=(a,c,d,e,f,g);aO ((1<=b/\b<=67000)/\eQ A/\qP.Oi (gW A)/\qP.Oi (gX A)) (aO (aP B/\aP C) (aC (lH (bI.mY (dv B) (dv C)) (bI.mW (dv B) (dv C))) fun h=>aB (decide (0<h)) (cC.bFE b a c d e f g false 0 false 0 false f g false c d) (cC.bFE b a c d e f g false 0 false 0 false c d false f g))):=eJ aX
theorem aXJ a b c d e f g h i j k l m n o p q:bFE a b c d e f g h i j k l m n o p q=letI A:=(b,c,d,e,f,g);aO (eQ A) (aC (fL.sF (dv (gW A)) (dv (gX A))) fun r=>aB (r==0) (cC.Qb a h i j k false 0 o p q) (cC.aXG a h i j k l m n o p q)):=cJ aX
theorem yD a b c d e f g h i j:Qb a b c d e f g h i j=letI A:=i64.wrap (a+2);letI C:=bC.rN (dv (h,i,j)) A;letI B:=bC.qN (dv (f,[],g)) A;aO (bC.aFM (h,i,j) A) (aC (isNeg C.fst) fun k=>aC (M6.dg C.fst.natAbs) fun l=>aC C.snd fun m=>aO (bC.aFM (f,[],g) A) (aC (isNeg B.fst) fun n=>aC (M6.dg B.fst.natAbs) fun o=>aC B.snd fun p=>some [D.agg [sc (bool k),ints u64 l,sc (int i64 m),sc (bool n),ints u64 o,sc (int i64 p)],D.s (sc (int i64 0))])):=cJ aX
theorem aRK a b c d e f g h i j k:aXG a b c d e f g h i j k=letI A:=i64.wrap (a+2);letI C:=bC.qN (dv (f,g,h)) A;letI B:=bC.rN (dv (i,j,k)) A;aO (bC.aFM (i,j,k) A) (aC (isNeg B.fst) fun l=>aC (M6.dg B.fst.natAbs) fun m=>aC B.snd fun n=>aO (bC.aFM (f,g,h) A) (aC (isNeg C.fst) fun o=>aC (M6.dg C.fst.natAbs) fun p=>aC C.snd fun q=>some [D.agg [sc (bool l),ints u64 m,sc (int i64 n),sc (bool o),ints u64 p,sc (int i64 q)],D.s (sc (int i64 0))])):=cJ aX
def Xo(x:gB):gB:=(false,x.2.1,x.2.2)
def zU(s:wW):gB:=bif decide (0<eB (dv (Xo (gW s))) (dv (Xo (gX s))))then Xo (gW s)else Xo (gX s)
def tF(s:wW):gB:=bif fL.sF (dv (gW s)) (dv (gX s))==0 then(false,[],0)else bif decide (0<eB (dv (Xo (gW s))) (dv (Xo (gX s))))then Xo (gX s)else Xo (gW s)
def Zp(s:wW)(p:Int):Prop:=((1<=p/\p<=67000)/\eQ s/\qP.Oi (gW s)/\qP.Oi (gX s))/\(bC.sp (zU s) (p+2)).1/\(bC.sp (tF s) (p+2)).1
def sp(s:wW)(p:Int):Prop×List D:=(Zp s p,[uV (bC.rN (dv (zU s)) (p+2)) (bC.qN (dv (tF s)) (p+2)),.s (.sc (.int .i64 0))])
theorem JN{s:wW}{p:Int}(hp:1<=p/\p<=67000)(hs:eQ s){n f:gB}(hf:(bC.sp f (p+2)).1)(hn:(bC.sp (bif fL.sF (dv (gW s)) (dv (gX s))==0 then(false,[],0)else n) (p+2)).1) :
  bFE p s.1 s.2.1 s.2.2.1 s.2.2.2.1 s.2.2.2.2.1 s.2.2.2.2.2 false 0 false 0 n.1 n.2.1 n.2.2 f.1 f.2.1 f.2.2=some [uV (bC.rN (dv f) (p+2)) (bC.qN (dv (bif fL.sF (dv (gW s)) (dv (gX s))==0 then(false,[],0)else n)) (p+2)),.s (.sc (.int .i64 0))]:=by
 have w:i64.wrap (p+2)=p+2:=wrap_i64;rw[aXJ,gP hs,aG];show aB (fL.sF (dv (gW s)) (dv (gX s))==0) _ _=_
 by_cases c:fL.sF (dv (gW s)) (dv (gX s))=0
 ·rw[show(fL.sF (dv (gW s)) (dv (gX s))==0)=true from beq_iff_eq.2 c,cond_true]at hn ⊢;show Qb _ _ _ _ _ _ _ _ _ _=_;rw[yD];simp only[w,aG];exact(gP hf).trans ((gP hn).trans rfl)
 ·rw[show(fL.sF (dv (gW s)) (dv (gX s))==0)=false from beq_eq_false_iff_ne.2 c,cond_false]at hn ⊢;show aXG _ _ _ _ _ _ _ _ _ _ _=_;rw[aRK];simp only[w,aG];exact(gP hf).trans ((gP hn).trans rfl)
theorem spec:gU E f116 aE yH (pN .i64) sp:=by
 rintro s p ⟨h1,h2,h3⟩;refine(start s.1 s.2.1 s.2.2.1 s.2.2.2.1 s.2.2.2.2.1 s.2.2.2.2.2 p).trans ?_;have ab:∀x:gB,aP x->aP (Xo x):=fun x hx=>⟨⟨hx.1.1,fun hf=>(by cases hf),hx.1.len⟩,hx.2⟩
 refine(gP h1).trans ((gP ⟨ab _ h1.2.1.1,ab _ h1.2.1.2.1⟩).trans ?_);rw[aG];unfold sp;unfold zU tF at *;dsimp only;show aB (decide (0<eB (dv (Xo (gW s))) (dv (Xo (gX s))))) _ _=_
 by_cases c:0<eB (dv (Xo (gW s))) (dv (Xo (gX s)))
 ·rw[aQ c];rw[decide_eq_true c,cond_true,cond_true]at *;exact JN h1.1 h1.2.1 h2 h3
 ·rw[aL c];rw[decide_eq_false c,cond_false,cond_false]at *;exact JN h1.1 h1.2.1 h2 h3
def aJ:dO:=orc2 yH (pN .i64) sp
theorem ok:OK 116 aJ:=(fA E aE (aA Gt.ok (aA Gv.ok (aA Hy.ok (aA fL.ok (aA bC.ok aD))))) func116).mV rfl spec
end cC
namespace mI
def E:=mE [(156,Gt.aJ),(157,fH.aJ)] 27 [9] [] []
def aE:=bd f115
theorem aX:Nk E aE:=nk
theorem start a c d e f g b:aH E f115 aE [D.agg [sc (bool a),ints u64 c,sc (int i64 d),sc (bool e),ints u64 f,sc (int i64 g)],D.s (sc (int i64 b))]=letI F:=(a,c,d,e,f,g);letI A:=i64.wrap (b+2);letI C:=fH.Jt (dv (e,f,g)) A;letI B:=fH.Js (dv (a,c,d)) A;aO ((1<=b/\b<=67000)/\eQ F/\qP.Oi (gW F)/\qP.Oi (gX F)) (aO (fH.aOG (a,c,d) A) (aC (isNeg B.fst) fun h=>aC (M6.dg B.fst.natAbs) fun i=>aC B.snd fun j=>aO (fH.aOG (e,f,g) A) (aC (isNeg C.fst) fun k=>aC (M6.dg C.fst.natAbs) fun l=>aC C.snd fun m=>some [D.agg [sc (bool h),ints u64 i,sc (int i64 j),sc (bool k),ints u64 l,sc (int i64 m)],D.s (sc (int i64 0))]))):=eJ aX
def Tw(s:wW)(p:Int):Prop:=((1<=p/\p<=67000)/\eQ s/\qP.Oi (gW s)/\qP.Oi (gX s))/\(fH.sp (gW s) (p+2)).1/\(fH.sp (gX s) (p+2)).1
def sp(s:wW)(p:Int):Prop×List D:=(Tw s p,[uV (fH.Js (dv (gW s)) (p+2)) (fH.Jt (dv (gX s)) (p+2)),.s (.sc (.int .i64 0))])
theorem spec:gU E f115 aE yH (pN .i64) sp:=by
 rintro s p ⟨h1,h2,h3⟩;have p0:=h1.1;refine(start s.1 s.2.1 s.2.2.1 s.2.2.2.1 s.2.2.2.2.1 s.2.2.2.2.2 p).trans ?_;have w:i64.wrap (p+2)=p+2:=wrap_i64;simp only[w];rw[gP h1];simp only[aG];exact(gP h2).trans ((gP h3).trans rfl)
def aJ:dO:=orc2 yH (pN .i64) sp
theorem ok:OK 115 aJ:=(fA E aE (aA Gt.ok (aA fH.ok aD)) func115).mV rfl spec
end mI
end W
namespace R
def fv(fn:Int)(x:Rat)(k:Int):Rat:=if fn=1 then Sf x k else if fn=2 then Cf x k else Sf x k/Cf x k
end R
namespace M
open Go AI W
def mg(p:Int):Rat:=if p<2500 then 0 else R.pz (-p-1500)
theorem aSF(p:Int):0<=mg p:=by
 unfold mg;split
 ·exact cAZ
 ·exact bZY (R.dC _)
theorem aSG(p:Int):mg p<=R.pz (-p-1500):=by
 unfold mg;split
 ·exact bZY (R.dC _)
 ·exact cAZ
structure kW(u v:Int×Int)(a:Rat)(p:Int):Prop where
 pu:jJ u
 pv:jJ v
 a0:R.pz (-1074)<=a
 a1:a<=79/100
 lu:R.ab (R.qz u)<=a
 lv:a<=R.ab (R.qz v)
 wd:R.ab (R.qz v)-R.ab (R.qz u)<=R.pz (-p-23)*a
theorem aTW{p:Int}(hp:-6<=p):R.pz (-p-23)<=1/131072:=by
 have:=R.bV (show -p-23<=-17 by omega);have e:=R.fG 0 (n:=17) (c:=131072) (by norm_cast);rw[R.fQ,show(0:Int)-((17:Nat):Int)=-17 by rfl]at e;grind
theorem kW.more{u v:Int×Int}{a:Rat}{p:Int}(h:kW u v a p)(hp:-6<=p):0<a/\3/4*a<=R.ab (R.qz u)/\R.ab (R.qz v)<=5/4*a/\R.ab (R.qz v)<=4/5/\u.1≠0/\v.1≠0/\-1075<=bA u/\-1075<=bA v:=by
 obtain⟨_,_,a0,a1,lu,lv,wd⟩:=h;have ap:0<a:=by have:=R.dC (-1074);grind
 have bOA:=aTW hp;have m:=R.aF (bZY ap) (show 0<=1/131072-R.pz (-p-23) by grind);have u1:3/4*a<=R.ab (R.qz u):=by grind
 have aAN:u.1≠0:=Hd (by intro hz;rw[hz,R.bG cAZ]at u1;grind);have aGC:v.1≠0:=Hd (by intro hz;rw[hz,R.bG cAZ]at lv;grind);have t:R.pz (-1075)*2=R.pz (-1074):=by have:=R.qA (-1074);rw[show(-1074:Int)-1=-1075 by rfl]at this;exact this
 have tp:=R.dC (-1075);exact⟨ap,u1,by grind,by grind,aAN,aGC,Cg aAN (by grind),Cg aGC (by grind)⟩
theorem aIH{u v:Int×Int}{a:Rat}{p n:Int}(h:kW u v a p)(hp:-6<=p/\p<=66000)(hn:p+14<=n/\n<=p+150/\1<=n):aYR u n/\aYR v n/\Bx (fH.tN u n,fH.sE v n) (R.sn a) (R.pz (-p-12)*R.ab (R.sn a)) (mg p):=by
 obtain⟨ap,u1,v1,v2,aAN,aGC,tu,tv⟩:=h.more hp.1;obtain⟨pu,pv,a0,a1,lu,lv,wd⟩:=h;have nu:=Ty pu aAN (p:=n) (by grind) (by omega) (by omega);have nv:=Ty pv aGC (p:=n) (by grind) (by omega) (by omega);refine⟨nu,nv,nu.pl,nv.ph,bVN nu.bl (by decide),bVN nv.bh (by decide),aSF p,?_,?_,?_⟩
 ·dsimp only;have h1:=nu.lo;have h2:=R.aAY (x:=R.ab (R.qz u)) (y:=a) (by rw[R.bG (R.aM _)];grind) (by rw[R.bG (by grind)];grind) lu;have h3:=aSG p;have h4:R.pz (-p-1500)<=R.pz (bA u-n-270):=R.bV (by omega);grind
 ·dsimp only;have h2:=R.aAY (x:=a) (y:=R.ab (R.qz v)) (by rw[R.bG (by grind)];grind) (by rw[R.bG (R.aM _)];grind) lv;unfold mg;split
  ·have:=nv.hi;grind
  ·have:=nv.mh (by omega);have h4:R.pz (-p-1500)<=R.pz (bA v-n-270):=R.bV (by omega);grind
 ·dsimp only;have k1:=nu.wd;have k2:=nv.wd;have k3:=nu.hi;have k4:=nv.lo;have pz1:=R.dC (bA v-n-270);have bGB:=R.aAZ (x:=R.ab (R.qz u)) (y:=R.ab (R.qz v)) (by rw[R.bG (R.aM _)];grind) (by rw[R.bG (R.aM _)];grind);rw[R.bG (show 0<=R.ab (R.qz v)-R.ab (R.qz u) by grind)]at bGB;have l2:=R.Bs (R.sn (R.ab (R.qz v))-R.sn (R.ab (R.qz u)));obtain⟨s1,s2⟩:=R.aBB (bZY ap) (show a<=4/5 by grind);rw[R.bG (show 0<=R.sn a by grind)];have aYV:=R.bV (show -n-1<=-p-15 by omega);have k1:=bZW k1 (cJQ aYV (R.aM (R.qz u)));have k2:=bZW k2 (cJQ aYV (R.aM (R.qz v)));have bJZ:R.pz (-p-15)=256*R.pz (-p-23):=by
   have:=R.fG (-p-15) (n:=8) (c:=256) (by norm_cast);rw[show -p-15-((8:Nat):Int)=-p-23 by omega]at this;grind
  have bCS:R.pz (-p-12)=2048*R.pz (-p-23):=by
   have:=R.fG (-p-12) (n:=11) (c:=2048) (by norm_cast);rw[show -p-12-((11:Nat):Int)=-p-23 by omega]at this;grind
  have zp:=R.dC (-p-23);rw[bJZ]at k1 k2;rw[bCS];generalize R.pz (-p-23)=z at *;have m1:=R.aF (bZY zp) (show 0<=5/4*a-R.ab (R.qz v) by grind);have m2:=R.aF (bZY zp) (show 0<=a-R.ab (R.qz u) by grind);have m3:=R.aF (bZY zp) (show 0<=R.sn a-4/5*a by grind);have m4:=R.aF (bZY zp) (bZY ap);grind
theorem aWE{n:Nat}(h:n<=1048576):R.vW<=R.pz (-(n:Int)):=by
 rw[R.xG];exact R.Bd h
theorem aWJ{u v:Int×Int}{a:Rat}{p n:Int}(h:kW u v a p)(hp:-6<=p/\p<=66000)(hn:p+14<=n/\n<=p+150/\1<=n):bFF u n/\bFF v n/\Bx (bC.rN v n,bC.qN u n) (R.cs a) (R.pz (-p-12)*R.ab (R.cs a)) (mg p):=by
 obtain⟨ap,u1,v1,v2,aAN,aGC,tu,tv⟩:=h.more hp.1;obtain⟨pu,pv,a0,a1,lu,lv,wd⟩:=h;have nu:=Lt (x:=u) (p:=n) (by grind) (fun _=>by omega) (by omega);have nv:=Lt (x:=v) (p:=n) (by grind) (fun _=>by omega) (by omega);have he:2*R.vW<=R.pz (-p-1501):=by
  have:=aWE (n:=100000) (by omega);have h2:=R.bV (show -((100000:Nat):Int)+1<=-p-1501 by omega);rw[R.kF]at h2;grind
 have e1500:R.pz (-p-1500)=2*R.pz (-p-1501):=by rw[<-R.kF];congr 1;omega
 have pp:=R.dC (-p-1501);have m1:=R.aDD (x:=R.ab (R.qz u)) (y:=a) (R.aM _) lu (by grind);have m2:=R.aDD (x:=a) (y:=R.ab (R.qz v)) (bZY ap) lv (by grind);have mm:=aSG p;obtain⟨c1,c2⟩:=R.Vu (r:=a) (by rw[R.bG (bZY ap)];grind);refine⟨nu,nv,nv.pl,nu.ph,bVN nv.bl (by decide),bVN nu.bh (by decide),aSF p,?_,?_,?_⟩
 ·dsimp only;have:=nv.ml aGC;have h4:R.pz (-p-1499)<=R.pz (bA v-n-270):=R.bV (by omega);have bCR:R.pz (-p-1499)=2*R.pz (-p-1500):=by rw[<-R.kF];congr 1;omega
  grind
 ·dsimp only
  by_cases c:2*bA u+8 < -n
  ·have e:bC.qN u n=(1,0):=by
    have et:aR.iP u=bA u:=by unfold aR.iP bA;rw[if_neg aAN]
    unfold bC.qN;rw[et,if_neg aAN,if_pos c]
   unfold mg;rw[aW,e,oT];grind
  ·have:=nu.mh aAN c;have h4:R.pz (-p-1499)<=R.pz (bA u-n-270):=R.bV (by omega);have bCR:R.pz (-p-1499)=2*R.pz (-p-1500):=by rw[<-R.kF];congr 1;omega
   grind
 ·dsimp only;have k1:=nu.wd;have k2:=nv.wd;have k3:=nu.lo;have k4:=nv.hi;have bGB:=R.aLW (x:=R.ab (R.qz u)) (y:=R.ab (R.qz v)) (by rw[R.bG (R.aM _)];grind) (by rw[R.bG (R.aM _)];grind);rw[R.bG (show 0<=R.ab (R.qz v)-R.ab (R.qz u) by grind)]at bGB;have l2:=R.nI (R.cs (R.ab (R.qz v))-R.cs (R.ab (R.qz u)));rw[R.bG (show 0<=R.cs a by grind)];have aYV:=R.bV (show -n-1<=-p-15 by omega);have k1:=bZW k1 aYV;have k2:=bZW k2 aYV;have bJZ:R.pz (-p-15)=256*R.pz (-p-23):=by
   have:=R.fG (-p-15) (n:=8) (c:=256) (by norm_cast);rw[show -p-15-((8:Nat):Int)=-p-23 by omega]at this;grind
  have bCS:R.pz (-p-12)=2048*R.pz (-p-23):=by
   have:=R.fG (-p-12) (n:=11) (c:=2048) (by norm_cast);rw[show -p-12-((11:Nat):Int)=-p-23 by omega]at this;grind
  have zp:=R.dC (-p-23);have h5:R.pz (-p-1501)<=R.pz (-p-23):=R.bV (by omega);rw[bJZ]at k1 k2;rw[bCS];generalize R.pz (-p-23)=z at *;have m3:=R.aF (bZY zp) (show 0<=R.cs a-17/25 by grind);have m4:=R.aF (bZY zp) (show 0<=1-a by grind);grind
def rS(x:Int×Int)(w q:Int):(Int×Int)×(Int×Int):=(fH.Js (aZ.Xl x w) q,fH.Jt (aZ.Xm x w) q)
def aXT(x:Int×Int)(w:Int):wW:=mM (aZ.Xl x w) (aZ.Xm x w)
def rC(x:Int×Int)(w q:Int):(Int×Int)×(Int×Int):=(bC.rN (dv (cC.zU (aXT x w))) q,bC.qN (dv (cC.tF (aXT x w))) q)
def pZ(x:Int×Int)(w q:Int):((Int×Int)×(Int×Int))×((Int×Int)×(Int×Int)):=VTurned.trn (rS x w q) (rC x w q) (aZ.cQ x w).toNat
def rQ (x : Int × Int) (w p : Int) : (Int × Int) × (Int × Int) :=
  (aN (iQ.Ka (p + 8) (pZ x w (p + 2)).1.1 (pZ x w (p + 2)).1.2 (pZ x w (p + 2)).2.1 (pZ x w (p + 2)).2.2).1 (iQ.Ka (p + 8) (pZ x w (p + 2)).1.1 (pZ x w (p + 2)).1.2 (pZ x w (p + 2)).2.1 (pZ x w (p + 2)).2.2).2,
   aN (iQ.Kb (p + 8) (pZ x w (p + 2)).1.1 (pZ x w (p + 2)).1.2 (pZ x w (p + 2)).2.1 (pZ x w (p + 2)).2.2).1 (iQ.Kb (p + 8) (pZ x w (p + 2)).1.1 (pZ x w (p + 2)).1.2 (pZ x w (p + 2)).2.1 (pZ x w (p + 2)).2.2).2)
def rE(fn:Int)(x:Int×Int)(w p:Int):(Int×Int)×(Int×Int):=bif fn==1 then(pZ x w (p+2)).1 else bif fn==2 then(pZ x w (p+2)).2 else rQ x w p
theorem aAT{x:Int×Int}(h:x.1≠0):aR.iP x=bA x:=by unfold aR.iP bA;rw[if_neg h]
theorem aRR{x:gB}{p:Int}(hx:aP x)(hp:1<=p/\p<=67100)(ht:-1200<=bA (dv x))(n:aYR (dv x) p):fH.aOG x p:=by
 refine⟨hx,hp,fun h0=>?_⟩;rw[aAT h0];refine⟨by omega,n.pl,n.ph,kV.2 ?_,n.bFU,n.okB⟩;have h1:=n.lo;have h2:=n.hi;have h3:=R.dC (bA (dv x)-p-270);grind
theorem aTA{x:gB}{p:Int}(hx:aP x)(hp:1<=p/\p<=67100)(ht:(dv x).1≠0->-1200<=bA (dv x))(n:bFF (dv x) p):bC.aFM x p:=by
 refine⟨hx,hp,fun h0=>?_⟩;have:=ht h0;rw[aAT h0];exact⟨by omega,n.bFU h0,n.okB h0⟩
theorem Rz(a b:Int×Int):dv (cC.Xo (gW (mM a b)))=((a.1.natAbs:Int),a.2):=by
 show((M6.val (M6.dg a.1.natAbs):Int),a.2)=_;rw[M6.bN]
theorem Sa(a b:Int×Int):dv (cC.Xo (gX (mM a b)))=((b.1.natAbs:Int),b.2):=by
 show((M6.val (M6.dg b.1.natAbs):Int),b.2)=_;rw[M6.bN]
theorem So{x:gB}(hx:aP x):aP (cC.Xo x):=⟨⟨hx.1.1,fun hf=>(by cases hf),hx.1.len⟩,hx.2⟩
theorem sT(p:Int×Int):R.ab (R.qz ((p.1.natAbs:Int),p.2))=R.ab (R.qz p):=by rw[Cj,R.bG (R.aM _)]
theorem Vl{a b:Int×Int}(hs:fL.sF a b≠0)(ha:jJ a)(hb:jJ b) :
  (aP (cC.zU (mM a b))/\aP (cC.tF (mM a b))) /\
  ((R.ab (R.qz b)<R.ab (R.qz a)/\dv (cC.zU (mM a b))=((a.1.natAbs:Int),a.2)/\dv (cC.tF (mM a b))=((b.1.natAbs:Int),b.2)) \/
  (R.ab (R.qz a)<=R.ab (R.qz b)/\dv (cC.zU (mM a b))=((b.1.natAbs:Int),b.2)/\dv (cC.tF (mM a b))=((a.1.natAbs:Int),a.2))):=by
 have oa:aP (gW (mM a b)):=dJ ha;have ob:aP (gX (mM a b)):=dJ hb;unfold cC.zU cC.tF;rw[oL,oM,show(fL.sF a b==0)=false from beq_eq_false_iff_ne.2 hs,cond_false,Rz,Sa];have hc:=xQ (p:=((a.1.natAbs:Int),a.2)) (q:=((b.1.natAbs:Int),b.2));rw[Cj,Cj]at hc
 by_cases h:R.ab (R.qz b)<R.ab (R.qz a)
 ·rw[decide_eq_true (hc.2 h),cond_true,cond_true,Rz,Sa];exact⟨⟨So oa,So ob⟩,Or.inl ⟨h,rfl,rfl⟩⟩
 ·rw[decide_eq_false (fun hh=>h (hc.1 hh)),cond_false,cond_false,Rz,Sa];exact⟨⟨So ob,So oa⟩,Or.inr ⟨Rat.not_lt.1 h,rfl,rfl⟩⟩
theorem aOE{a:Int×Int}{x:gB}(hx:aP x)(e:dv x=a)(h1:R.ab (R.qz a)<=1)(ht:a.1≠0->-1200<=bA a):qP.Oi x:=by
 refine⟨hx,fun h0=>?_⟩;rw[e]at h0 ⊢;have:=ht h0;refine⟨kV.2 (by rw[Cj,oT];exact h1),?_⟩;unfold bA at this;omega
structure bUL(x:Int×Int)(p:Int)(r:Rat):Prop where
 so:mI.Tw (aXT x (p+80)) (p+12)
 co:cC.Zp (aXT x (p+80)) (p+12)
 s:Bx (rS x (p+80) (p+14)) (R.sn r) (R.pz (-p-12)*R.ab (R.sn r)) (mg p)
 c:Bx (rC x (p+80) (p+14)) (R.cs r) (R.pz (-p-12)*R.ab (R.cs r)) (mg p)
 s1:R.ab (R.qz (rS x (p+80) (p+14)).1)<=1/\R.ab (R.qz (rS x (p+80) (p+14)).2)<=1
 c1:R.ab (R.qz (rC x (p+80) (p+14)).1)<=1/\R.ab (R.qz (rC x (p+80) (p+14)).2)<=1
theorem aJN{s:(Int×Int)×(Int×Int)}{V W m:Rat}(h:Bx s V W m)(h1:-1<=R.qz s.1)(h2:R.qz s.2<=1):R.ab (R.qz s.1)<=1/\R.ab (R.qz s.2)<=1:=by
 have:=h.lo;have:=h.hi;have:=h.m0;constructor <;> (rw[R.bW];constructor <;> grind)
def gS(l h:Int×Int)(q:Int):(Int×Int)×(Int×Int):=(fH.Js l q,fH.Jt h q)
def gC(l h:Int×Int)(q:Int):(Int×Int)×(Int×Int):=(bC.rN (dv (cC.zU (mM l h))) q,bC.qN (dv (cC.tF (mM l h))) q)
structure bKH(l h:Int×Int)(p n:Int)(r:Rat):Prop where
 so:mI.Tw (mM l h) (n-2)
 co:cC.Zp (mM l h) (n-2)
 s:Bx (gS l h n) (R.sn r) (R.pz (-p-12)*R.ab (R.sn r)) (mg p)
 c:Bx (gC l h n) (R.cs r) (R.pz (-p-12)*R.ab (R.cs r)) (mg p)
 s1:R.ab (R.qz (gS l h n).1)<=1/\R.ab (R.qz (gS l h n).2)<=1
 c1:R.ab (R.qz (gC l h n).1)<=1/\R.ab (R.qz (gC l h n).2)<=1
theorem aHK{l h:Int×Int}{p n:Int}{r:Rat}(hp:-6<=p/\p<=66000)(hn:p+14<=n/\n<=p+150/\3<=n)(pl:jJ l)(ph:jJ h)(lo:R.qz l<=r)(hi:r<=R.qz h)(wd:R.qz h-R.qz l<=R.pz (-p-23)*R.ab r)(rg:R.pz (-1074)<=R.ab r)(nl:R.ab r<=79/100):bKH l h p n r:=by
 have Yt:p+14<=n/\n<=p+150/\1<=n:=by omega
 have bOA:=aTW hp.1;have rp:0<R.ab r:=by have:=R.dC (-1074);grind
 have m:=R.aF (bZY rp) (show 0<=1/131072-R.pz (-p-23) by grind);have tok:∀q:Int,q=n-2->(1<=q/\q<=67000):=fun q hq=>by omega
 have oa:aP (gW (mM l h)):=dJ pl;have ob:aP (gX (mM l h)):=dJ ph;have ea:dv (gW (mM l h))=l:=oL _ _;have eb:dv (gX (mM l h))=h:=oM _ _;have sk:eQ (mM l h):=xF pl ph (kV.2 (by grind));have aGV:n-2+2=n:=by omega
 have fin:∀(a:Rat),a=R.ab r->R.ab (R.qz l)<=4/5->R.ab (R.qz h)<=4/5 ->
   (l.1≠0/\-1075<=bA l)->(h.1≠0/\-1075<=bA h) ->
   aYR l n->aYR h n ->
   kW (dv (cC.tF (mM l h))) (dv (cC.zU (mM l h))) a p->aP (cC.zU (mM l h))->aP (cC.tF (mM l h)) ->
   Bx (gS l h n) (R.sn r) (R.pz (-p-12)*R.ab (R.sn r)) (mg p)->-1<=R.qz (gS l h n).1->R.qz (gS l h n).2<=1->bKH l h p n r:=by
  intro a ha l1 l2 t1 t2 n1 n2 par of on bs b1 b2;obtain⟨cu,cv,cb⟩:=aWJ par hp Yt;obtain⟨_,_,_,_,_,_,tu,tv⟩:=par.more hp.1;have ec:R.cs a=R.cs r:=by rw[ha];exact R.aLX r
  rw[ec]at cb;refine⟨⟨⟨tok _ rfl,sk,aOE oa ea (by grind) (fun _=>by omega),aOE ob eb (by grind) (fun _=>by omega)⟩,?_,?_⟩,⟨⟨tok _ rfl,sk,aOE oa ea (by grind) (fun _=>by omega),aOE ob eb (by grind) (fun _=>by omega)⟩,?_,?_⟩,bs,cb,aJN bs b1 b2,aJN cb ?_ cu.one⟩
  ·rw[aGV];exact aRR oa (by omega) (by rw[ea];omega) (by rw[ea];exact n1)
  ·rw[aGV];exact aRR ob (by omega) (by rw[eb];omega) (by rw[eb];exact n2)
  ·rw[aGV];exact aTA of (by omega) (fun _=>by omega) cv
  ·rw[aGV];exact aTA on (by omega) (fun _=>by omega) cu
  ·have h1:=cb.wd;have h2:=cb.hi;have h3:=cb.m0;obtain⟨c1,c2⟩:=R.Vu (r:=r) (by grind);rw[R.bG (show 0<=R.cs r by grind)]at h1;have z12:R.pz (-p-12)<=1:=by rw[<-R.fQ];exact R.bV (by omega)
   have:=R.aF (show 0<=R.cs r by grind) (show 0<=1-R.pz (-p-12) by grind);show -1<=R.qz (bC.rN (dv (cC.zU (mM l h))) n);dsimp only at h1 h2;grind
 have t75:R.pz (-1075)*2=R.pz (-1074):=by have:=R.qA (-1074);rw[show(-1074:Int)-1=-1075 by rfl]at this;exact this
 by_cases c:0<r
 ·have er:R.ab r=r:=R.bG (bZY c);rw[er]at nl wd rg rp m;have al:R.ab (R.qz l)=R.qz l:=R.bG (by grind);have ah:R.ab (R.qz h)=R.qz h:=R.bG (by grind);have par:kW l h r p:=⟨pl,ph,rg,nl,by rw[al];exact lo,by rw[ah];exact hi,by rw[al,ah];exact wd⟩;obtain⟨_,_,_,v2,aAN,aGC,tu,tv⟩:=par.more hp.1;obtain⟨nu,nv,bs⟩:=aIH par hp Yt;have sg:fL.sF l h≠0:=by rw[Xy (by grind) (by grind)];decide
  obtain⟨⟨of,on⟩,hd⟩:=Vl sg pl ph;have n1:isNeg l.1=false:=iM.2 (by have:=kA.1 (show 0<R.qz l by grind);omega);have n2:isNeg h.1=false:=iM.2 (by have:=kA.1 (show 0<R.qz h by grind);omega);have eS:gS l h n=(fH.tN l n,fH.sE h n):=by
   unfold gS fH.Js fH.Jt;rw[if_neg aAN,if_neg aGC,n1,n2];rfl
  refine fin r er.symm (by grind) (by grind) ⟨aAN,tu⟩ ⟨aGC,tv⟩ nu nv ?_ of on (by rw[eS];exact bs) ?_ ?_
  ·rcases hd with ⟨d1,d2,d3⟩ |⟨d1,d2,d3⟩
   ·grind
   ·show kW (dv (cC.tF (mM _ _))) (dv (cC.zU (mM _ _))) r p;rw[d2,d3];exact⟨xI pl,xI ph,rg,nl,by rw[sT,al];exact lo,by rw[sT,ah];exact hi,by rw[sT,sT,al,ah];exact wd⟩
  ·rw[eS];have:=nu.pos;dsimp only;grind
  ·rw[eS];exact nv.one
 ·have er:R.ab r=-r:=by
   unfold R.ab
   by_cases hr:0<=r
   ·have:r=0:=by grind
    rw[this,R.bG cAZ]at rp;grind
   ·rw[if_neg hr]
  rw[er]at nl wd rg rp m;have al:R.ab (R.qz l)=-R.qz l:=by rw[<-R.iI];exact R.bG (by grind)
  have ah:R.ab (R.qz h)=-R.qz h:=by rw[<-R.iI];exact R.bG (by grind)
  have par:kW h l (-r) p:=⟨ph,pl,rg,nl,by rw[ah];grind,by rw[al];grind,by rw[al,ah];grind⟩;obtain⟨_,_,_,v2,aAN,aGC,tu,tv⟩:=par.more hp.1;obtain⟨nu,nv,bs⟩:=aIH par hp Yt;have sg:fL.sF l h≠0:=by rw[Xz (by grind)];decide
  obtain⟨⟨of,on⟩,hd⟩:=Vl sg pl ph;have n1:isNeg l.1=true:=nJ.2 (Jz.1 (by grind));have n2:isNeg h.1=true:=nJ.2 (Jz.1 (by grind));have eS:gS l h n=(jY.wI (fH.sE l n),jY.wI (fH.tN h n)):=by
   unfold gS fH.Js fH.Jt;rw[if_neg aAN,if_neg aGC,n1,n2];rfl
  have bn:=bs.neg;have es:-R.sn (-r)=R.sn r:=by rw[R.Fa];grind
  have bTV:R.ab (R.sn (-r))=R.ab (R.sn r):=by rw[R.Fa,R.iI]
  rw[es,bTV]at bn;refine fin (-r) er.symm (by grind) (by grind) ⟨aGC,tv⟩ ⟨aAN,tu⟩ nv nu ?_ of on (by rw[eS];exact bn) ?_ ?_
  ·show kW (dv (cC.tF (mM _ _))) (dv (cC.zU (mM _ _))) (-r) p;rcases hd with ⟨d1,d2,d3⟩ |⟨d1,d2,d3⟩
   ·rw[d2,d3];exact⟨xI ph,xI pl,rg,nl,by rw[sT,ah];grind,by rw[sT,al];grind,by rw[sT,sT,al,ah];grind⟩
   ·rw[d2,d3];exact⟨xI pl,xI ph,rg,nl,by rw[sT,al];grind,by rw[sT,ah];grind,by rw[sT,sT,al,ah];grind⟩
  ·rw[eS];show -1<=R.qz (-(fH.sE l n).1,(fH.sE l n).2);rw[oU];have:=nv.one;grind
  ·rw[eS];show R.qz (-(fH.tN h n).1,(fH.tN h n).2)<=1;rw[oU];have:=nu.pos;grind
theorem aTK{x:Int×Int}{p k:Int}(hp:1<=p/\p<=66000)(h:aWW x (p+80) k):bUL x p (R.qz x-(k:Rat)*(R.pi/2)):=by
 have nl:=R.qU h.Yl;obtain⟨_,_,pl,ph,lo,hi,wd,rg⟩:=h;rw[show 57-(p+80)=-p-23 by omega]at wd;obtain⟨a,b,c,d,e,f⟩:=aHK (n:=p+14) ⟨by omega,hp.2⟩ (by omega) pl ph lo hi wd rg nl;rw[show p+14-2=p+12 by omega]at a b;exact⟨a,b,c,d,e,f⟩
end M
namespace M
open Go AI W
theorem Qr{up:Bool}{p:Int×Int}{n:Int}(hn:1<=n)(h:R.ab (R.qz p)<=1):R.ab (R.qz (shD up p n))<=1:=by
 unfold shD cD.nO;rw[oH];split
 ·exact h
 ·rename_i hk;dsimp only;have h0:p.1≠0:=by
   intro hz;rw[hz]at hk;exact hk (by show(bl 0:Int)-n<=0;rw[Sh];omega)
  have ht:=Df h0 (by rw[R.fQ];exact h);unfold bA at ht;obtain⟨k,Xh⟩:=bZV (show 0<=(bl p.1.natAbs:Int)-n by omega);rw[Xh,bYO];obtain⟨j,hj⟩:=bZV (show 0<=-(p.2+(k:Int)) by omega);have hz:p.1.natAbs<=2^j*2^k:=by
   rw[Pw]at h;rw[<-bZS];have e1:R.pz p.2*((2^(j+k):Nat):Rat)=1:=by rw[<-R.dX,show p.2+((j+k:Nat):Int)=0 by omega,R.fQ]
   have P:(0:Rat)<=((2^(j+k):Nat):Rat):=by exact_mod_cast cAS _
   have m:=R.aF P (show 0<=1-(p.1.natAbs:Rat)*R.pz p.2 by grind);have:(p.1.natAbs:Rat)<=((2^(j+k):Nat):Rat):=by
    have e2:((2^(j+k):Nat):Rat)*((p.1.natAbs:Rat)*R.pz p.2)=(p.1.natAbs:Rat):=by
     rw[Rat.mul_comm,cFV,e1];grind
    grind
   exact_mod_cast this
  have hp:(0:Int)<((2^k:Nat):Int):=by have:=bXR (n:=k) (show 0<2 by decide);omega
  have bLF:(p.1.natAbs:Int)<=((2^j:Nat):Int)*((2^k:Nat):Int):=by exact_mod_cast hz
  have hc:-((2^j:Nat):Int)<=kD.oZ up p.1 k/\kD.oZ up p.1 k<=((2^j:Nat):Int):=by
   have fl:∀w:Int,(w.natAbs:Int)<=((2^j:Nat):Int)*((2^k:Nat):Int)->-((2^j:Nat):Int)<=w/((2^k:Nat):Int)/\w/((2^k:Nat):Int)<=((2^j:Nat):Int):=by
    intro w hw;constructor
    ·refine Int.le_ediv_of_mul_le hp ?_;rw[Int.neg_mul];omega
    ·exact Int.ediv_le_of_le_mul hp (by omega)
   unfold kD.oZ;cases up with
   |false=>rw[cond_false];exact fl _ bLF
   |true =>
    rw[cond_true];have:=fl (-p.1) (by rw[cBC];exact bLF);omega
  generalize kD.oZ up p.1 k=c at *;have e1:R.pz (p.2+(k:Int))*((2^j:Nat):Rat)=1:=by rw[<-R.dX,show p.2+(k:Int)+(j:Int)=0 by omega,R.fQ]
  have pp:=R.dC (p.2+(k:Int));have c1:-((2^j:Nat):Rat)<=(c:Rat):=by
   have:((-((2^j:Nat):Int):Int):Rat)<=(c:Rat):=by exact_mod_cast hc.1
   rwa [cHO,cFX]at this
  have c2:(c:Rat)<=((2^j:Nat):Rat):=by
   have:(c:Rat)<=(((2^j:Nat):Int):Rat):=by exact_mod_cast hc.2
   rwa [cFX]at this
  have m1:=R.aF (bZY pp) (show 0<=(c:Rat)+((2^j:Nat):Rat) by grind);have m2:=R.aF (bZY pp) (show 0<=((2^j:Nat):Rat)-(c:Rat) by grind);rw[R.bW];constructor <;> grind
def On(s:(Int×Int)×(Int×Int)):Prop:=R.ab (R.qz s.1)<=1/\R.ab (R.qz s.2)<=1
theorem On.neg{s:(Int×Int)×(Int×Int)}(h:On s):On (jY.wI s.2,jY.wI s.1):=by
 constructor
 ·show R.ab (R.qz (-s.2.1,s.2.2))<=1;rw[oU,R.iI];exact h.2
 ·show R.ab (R.qz (-s.1.1,s.1.2))<=1;rw[oU,R.iI];exact h.1
theorem On.trn{s c:(Int×Int)×(Int×Int)}(hs:On s)(hc:On c):∀n:Nat,On (VTurned.trn s c n).1/\On (VTurned.trn s c n).2:=by
 intro n
 induction n generalizing s c with
 |zero=>exact⟨hs,hc⟩
 |succ n ih=>exact ih hc hs.neg
theorem Gk{s:(Int×Int)×(Int×Int)}{V ρ m:Rat}(h:Bx s V (ρ*R.ab V) m)(r1:ρ<=1/64)(V0:V≠0) :
  63/64*R.ab V<=R.ab (R.qz s.1)/\R.ab (R.qz s.1)<=65/64*R.ab V/\63/64*R.ab V<=R.ab (R.qz s.2)/\R.ab (R.qz s.2)<=65/64*R.ab V/\(0<V->0<R.qz s.1)/\(V<0->R.qz s.2<0)/\0<R.ab V:=by
 obtain⟨_,_,_,_,m0,lo,hi,wd⟩:=h;have a0:0<R.ab V:=by
  unfold R.ab;split <;> grind
 have k:=R.aF (bZY a0) (show 0<=1/64-ρ by grind);generalize hρ:ρ*R.ab V=W at *
 by_cases c:0<V
 ·have e:R.ab V=V:=R.bG (bZY c);rw[e]at a0 k hρ;rw[e];rw[R.bG (show 0<=R.qz s.1 by grind),R.bG (show 0<=R.qz s.2 by grind)];refine⟨by grind,by grind,by grind,by grind,fun _=>by grind,fun _=>by grind,c⟩
 ·have e:R.ab V=-V:=by unfold R.ab;rw[if_neg (by grind)]
  rw[e]at a0 k hρ;rw[e];rw[<-R.iI,R.bG (show 0<=-R.qz s.1 by grind),<-R.iI,R.bG (show 0<=-R.qz s.2 by grind)];refine⟨by grind,by grind,by grind,by grind,fun _=>by grind,fun _=>by grind,by grind⟩
theorem wR{s:(Int×Int)×(Int×Int)}{V W W' m:Rat}(h:Bx s V W m)(hw:W<=W'):Bx s V W' m:=by
 obtain⟨a,b,c,d,e,f,g,i⟩:=h;exact⟨a,b,c,d,e,f,g,bZW i hw⟩
def eE(fn:Int)(x:Int×Int)(p:Int):(Int×Int)×(Int×Int):=(shD false (rE fn x (p+80) (p+12)).1 (p+20),shD true (rE fn x (p+80) (p+12)).2 (p+20))
structure bDP(fn:Int)(x:Int×Int)(p k:Int):Prop where
 so:mI.Tw (aXT x (p+80)) (p+12)
 co:cC.Zp (aXT x (p+80)) (p+12)
 sS:eQ (mM (rS x (p+80) (p+14)).1 (rS x (p+80) (p+14)).2)
 sC:eQ (mM (rC x (p+80) (p+14)).1 (rC x (p+80) (p+14)).2)
 t1:eQ (mM (pZ x (p+80) (p+14)).1.1 (pZ x (p+80) (p+14)).1.2)
 t2:eQ (mM (pZ x (p+80) (p+14)).2.1 (pZ x (p+80) (p+14)).2.2)
 z:Hw (pZ x (p+80) (p+14)).1.1/\Hw (pZ x (p+80) (p+14)).1.2/\Hw (pZ x (p+80) (p+14)).2.1/\Hw (pZ x (p+80) (p+14)).2.2
 q0:fL.sF (pZ x (p+80) (p+14)).2.1 (pZ x (p+80) (p+14)).2.2≠0
 q1:gT (iQ.Ka (p+20) (pZ x (p+80) (p+14)).1.1 (pZ x (p+80) (p+14)).1.2 (pZ x (p+80) (p+14)).2.1 (pZ x (p+80) (p+14)).2.2).1 (iQ.Ka (p+20) (pZ x (p+80) (p+14)).1.1 (pZ x (p+80) (p+14)).1.2 (pZ x (p+80) (p+14)).2.1 (pZ x (p+80) (p+14)).2.2).2=true
 q2:gT (iQ.Kb (p+20) (pZ x (p+80) (p+14)).1.1 (pZ x (p+80) (p+14)).1.2 (pZ x (p+80) (p+14)).2.1 (pZ x (p+80) (p+14)).2.2).1 (iQ.Kb (p+20) (pZ x (p+80) (p+14)).1.1 (pZ x (p+80) (p+14)).1.2 (pZ x (p+80) (p+14)).2.1 (pZ x (p+80) (p+14)).2.2).2=true
 re:eQ (mM (rE fn x (p+80) (p+12)).1 (rE fn x (p+80) (p+12)).2)
 s1:wZ false (rE fn x (p+80) (p+12)).1 (p+20)=true
 s2:wZ true (rE fn x (p+80) (p+12)).2 (p+20)=true
 v0:R.fv fn (R.qz x) k≠0
 vl:R.pz (-1100)<=R.ab (R.fv fn (R.qz x) k)
 vh:R.ab (R.fv fn (R.qz x) k)<=R.pz 1090
 bx:Bx (eE fn x p) (R.fv fn (R.qz x) k) (R.pz (-p-8)*R.ab (R.fv fn (R.qz x) k)) (mg p)
 bits:(bl (eE fn x p).1.1.natAbs:Int)<=p+21/\(bl (eE fn x p).2.1.natAbs:Int)<=p+21
 ok:bI.jW (eE fn x p).2 (-(eE fn x p).1.1,(eE fn x p).1.2)=true
 thin:En.aXR (eE fn x p).1 (eE fn x p).2 p=true
 on:fn<=2->On (eE fn x p)
theorem tG{p:Int×Int}(h:0<R.ab (R.qz p)):p.1≠0:=Hd fun hz=>by rw[hz,R.bG cAZ]at h;exact Rat.lt_irrefl h
theorem aBK(k:Int)(s c:Rat):R.ab (R.rs k s c)=if k%2=0 then R.ab s else R.ab c:=by
 have h4:k%4=0\/k%4=1\/k%4=2\/k%4=3:=by omega
 unfold R.rs;rcases h4 with h |h |h |h
 ·have h2:k%2=0:=by omega
  simp[h,h2,R.iI]
 ·have h2:k%2=1:=by omega
  simp[h,h2,R.iI]
 ·have h2:k%2=0:=by omega
  simp[h,h2,R.iI]
 ·have h2:k%2=1:=by omega
  simp[h,h2,R.iI]
theorem aBN(k:Int)(s c:Rat):R.ab (R.rc k s c)=if k%2=0 then R.ab c else R.ab s:=by
 have h4:k%4=0\/k%4=1\/k%4=2\/k%4=3:=by omega
 unfold R.rc;rcases h4 with h |h |h |h
 ·have h2:k%2=0:=by omega
  simp[h,h2,R.iI]
 ·have h2:k%2=1:=by omega
  simp[h,h2,R.iI]
 ·have h2:k%2=0:=by omega
  simp[h,h2,R.iI]
 ·have h2:k%2=1:=by omega
  simp[h,h2,R.iI]
theorem tZ{fn:Int}{x:Int×Int}{p k:Int}(hx:aAH x)(hp:1<=p/\p<=66000)(hf:1<=fn/\fn<=3)(h:aWW x (p+80) k):bDP fn x p k:=by
 obtain⟨so,co,bs,bc,os,oc⟩:=aTK hp h;have rn:=R.qU h.Yl;have rg:=h.rg;have hq:=h.q;obtain⟨r,hr⟩:∃r,r=R.qz x-(k:Rat)*(R.pi/2):=⟨_,rfl⟩;have bJU:R.Sf (R.qz x) k=R.rs k (R.sn r) (R.cs r):=by rw[hr];rfl
 have bJV:R.Cf (R.qz x) k=R.rc k (R.sn r) (R.cs r):=by rw[hr];rfl
 rw[<-hr]at bs bc rn rg;have t75:R.pz (-1075)*2=R.pz (-1074):=by have:=R.qA (-1074);rw[show(-1074:Int)-1=-1075 by rfl]at this;exact this
 have bFP:=R.dC (-1075);have bPE:R.pz (-1075)<=1/2:=by
  have:=R.bV (show(-1074:Int)<=0 by omega);rw[R.fQ]at this;grind
 obtain⟨c1,c2⟩:=R.Vu (r:=r) (by grind);have s0:R.pz (-1075)<=R.ab (R.sn r)/\R.ab (R.sn r)<=1:=by
  rw[<-R.aIF (by grind)];obtain⟨a,b⟩:=R.aBB (R.aM r) (by grind);constructor <;> grind
 have s1:R.pz (-1075)<=R.ab (R.cs r)/\R.ab (R.cs r)<=1:=by
  rw[R.bG (show 0<=R.cs r by grind)];constructor <;> grind
 have sS:R.pz (-1075)<=R.ab (R.Sf (R.qz x) k)/\R.ab (R.Sf (R.qz x) k)<=1:=by
  rw[bJU,aBK];split <;> assumption
 have sC:R.pz (-1075)<=R.ab (R.Cf (R.qz x) k)/\R.ab (R.Cf (R.qz x) k)<=1:=by
  rw[bJV,aBN];split <;> assumption
 have Kl:∀v:Rat,R.pz (-1075)<=R.ab v->v≠0:=fun v hv hz=>by rw[hz,R.bG cAZ]at hv;grind
 have S0:=Kl _ sS.1;have C0:=Kl _ sC.1;obtain⟨z,hz⟩:∃z,z=R.pz (-p-20):=⟨_,rfl⟩;have z0:=R.dC (-p-20);rw[<-hz]at z0;have pw:∀(a:Int) (n:Nat) (c:Rat),a=-p-20+(n:Int)->((2^n:Nat):Rat)=c->R.pz a=c*z:=fun a n c ha hc=>by
  rw[ha,R.dX,hc,hz];grind
 have bCS:=pw (-p-12) 8 256 (by omega) (by norm_cast);have e8:=pw (-p-8) 12 4096 (by omega) (by norm_cast);have bEY:=pw (1-(p+20)) 1 2 (by omega) (by norm_cast);have bJY:=pw (2-(p+20)) 2 4 (by omega) (by norm_cast);have zs:z<=1/2097152:=by
  have:=R.bV (show -p-20<=-21 by omega);have e:=R.fG 0 (n:=21) (c:=2097152) (by norm_cast);rw[R.fQ,show(0:Int)-((21:Nat):Int)=-21 by rfl]at e;grind
 obtain⟨b1,b2⟩:=Bx.trn bs bc (k:=k);have eT:pZ x (p+80) (p+14)=VTurned.trn (rS x (p+80) (p+14)) (rC x (p+80) (p+14)) (k%4).toNat:=by unfold pZ;rw[hq]
 rw[<-eT,<-bJU]at b1;rw[<-eT,<-bJV]at b2;have aUE:=On.trn os oc (k%4).toNat;rw[<-eT]at aUE;have b1:Bx (pZ x (p+80) (p+14)).1 (R.Sf (R.qz x) k) (R.pz (-p-12)*R.ab (R.Sf (R.qz x) k)) (mg p):=by
  refine wR b1 ?_;rw[bJU,aBK];split <;> exact cAZ
 have b2:Bx (pZ x (p+80) (p+14)).2 (R.Cf (R.qz x) k) (R.pz (-p-12)*R.ab (R.Cf (R.qz x) k)) (mg p):=by
  refine wR b2 ?_;rw[bJV,aBN];split <;> exact cAZ
 rw[bCS]at b1 b2;have bOJ:=bs.yV;have bOI:=bc.yV;have n1:=Gk b1 (by grind) S0;have n2:=Gk b2 (by grind) C0;have bCN:R.pz (-1300)<=R.pz (-1075)/2:=by
  have:=R.qA (-1075);have:=R.bV (show(-1300:Int)<=-1075-1 by omega);grind
 have z1:Hw (pZ x (p+80) (p+14)).1.1:=yY b1.bl (tG (by grind)) (by grind) (by grind);have z2:Hw (pZ x (p+80) (p+14)).1.2:=yY b1.bh (tG (by grind)) (by grind) (by grind);have z3:Hw (pZ x (p+80) (p+14)).2.1:=yY b2.bl (tG (by grind)) (by grind) (by grind);have z4:Hw (pZ x (p+80) (p+14)).2.2:=yY b2.bh (tG (by grind)) (by grind) (by grind);have bCJ:R.Sf (R.qz x) k/R.Cf (R.qz x) k*R.Cf (R.qz x) k=R.Sf (R.qz x) k:=by grind
 obtain⟨q0,q1,q2,bq⟩:=aIN (p:=p+20) b1 b2 S0 C0 sC.2 (by grind) (by grind) bCJ (by omega) z1 z2 z3 z4;rw[bJY]at bq;have aV:R.ab (R.Sf (R.qz x) k/R.Cf (R.qz x) k)*R.ab (R.Cf (R.qz x) k)=R.ab (R.Sf (R.qz x) k):=by rw[<-R.fJ,bCJ]
 have bPI:R.pz (-1075)*R.pz 1075=1:=by rw[<-R.jI];exact R.fQ
 have bUM:1<=R.pz 1075:=by rw[<-R.fQ];exact R.bV (by omega)
 have tV:R.pz (-1075)<=R.ab (R.Sf (R.qz x) k/R.Cf (R.qz x) k)/\R.ab (R.Sf (R.qz x) k/R.Cf (R.qz x) k)<=R.pz 1075:=by
  have a0:=R.aM (R.Sf (R.qz x) k/R.Cf (R.qz x) k);generalize R.ab (R.Sf (R.qz x) k/R.Cf (R.qz x) k)=a at *;constructor
  ·have:=R.aF a0 (show 0<=1-R.ab (R.Cf (R.qz x) k) by grind);grind
  ·refine R.bS bFP ?_;have:=R.aF a0 (show 0<=R.ab (R.Cf (R.qz x) k)-R.pz (-1075) by grind);grind
 have bKG:=Kl _ tV.1;obtain⟨bE,vl,vh,V0,oE⟩:Bx (rE fn x (p+80) (p+12)) (R.fv fn (R.qz x) k) (2048*z*R.ab (R.fv fn (R.qz x) k)) (mg p)/\R.pz (-1075)<=R.ab (R.fv fn (R.qz x) k)/\R.ab (R.fv fn (R.qz x) k)<=R.pz 1075/\R.fv fn (R.qz x) k≠0/\(fn<=2->On (rE fn x (p+80) (p+12))):=by
  have aGV:p+12+2=p+14:=by omega
  have bJX:p+12+8=p+20:=by omega
  have h3:fn=1\/fn=2\/fn=3:=by omega
  rcases h3 with rfl |rfl |rfl
  ·have a:R.fv 1 (R.qz x) k=R.Sf (R.qz x) k:=rfl;have b:rE 1 x (p+80) (p+12)=(pZ x (p+80) (p+14)).1:=by unfold rE;rw[aGV];rfl
   rw[a,b];exact⟨wR b1 (by have:=R.aF (bZY z0) (R.aM (R.Sf (R.qz x) k));grind),sS.1,by grind,S0,fun _=>aUE.1⟩
  ·have a:R.fv 2 (R.qz x) k=R.Cf (R.qz x) k:=rfl;have b:rE 2 x (p+80) (p+12)=(pZ x (p+80) (p+14)).2:=by unfold rE;rw[aGV];rfl
   rw[a,b];exact⟨wR b2 (by have:=R.aF (bZY z0) (R.aM (R.Cf (R.qz x) k));grind),sC.1,by grind,C0,fun _=>aUE.2⟩
  ·have a:R.fv 3 (R.qz x) k=R.Sf (R.qz x) k/R.Cf (R.qz x) k:=rfl;have b:rE 3 x (p+80) (p+12)=rQ x (p+80) (p+12):=rfl;rw[a,b];unfold rQ;rw[aGV,bJX];exact⟨wR bq (by have:=R.aF (bZY z0) (R.aM (R.Sf (R.qz x) k/R.Cf (R.qz x) k));grind),tV.1,tV.2,bKG,fun h=>absurd h (by decide)⟩
 have nE:=Gk bE (by grind) V0;have bDI:2*R.pz 1075<=R.pz 1100:=by rw[<-R.kF];exact R.bV (by omega)
 obtain⟨bFJ,bFI,bO⟩:=Yi (n:=p+20) bE (by omega) (by grind) (by grind);rw[bEY]at bO;have bX:Bx (eE fn x p) (R.fv fn (R.qz x) k) (4096*z*R.ab (R.fv fn (R.qz x) k)) (mg p):=by
  refine wR bO ?_;have k1:=R.aF (bZY z0) (show 0<=65/64*R.ab (R.fv fn (R.qz x) k)-R.ab (R.qz (rE fn x (p+80) (p+12)).1) by grind);have k2:=R.aF (bZY z0) (show 0<=65/64*R.ab (R.fv fn (R.qz x) k)-R.ab (R.qz (rE fn x (p+80) (p+12)).2) by grind);have k3:=R.aF (bZY z0) (R.aM (R.fv fn (R.qz x) k));grind
 have nX:=Gk bX (by grind) V0;have g1:=yZ false (rE fn x (p+80) (p+12)).1 (p+20).toNat;have g2:=yZ true (rE fn x (p+80) (p+12)).2 (p+20).toNat;rw[show(((p+20).toNat:Nat):Int)=p+20 by omega]at g1 g2;have m1:(eE fn x p).1.1≠0:=tG (by grind);have m2:(eE fn x p).2.1≠0:=tG (by grind);have x1:=Ih (up:=false) (p:=(rE fn x (p+80) (p+12)).1) (n:=p+20) m1;have x2:=Ih (up:=true) (p:=(rE fn x (p+80) (p+12)).2) (n:=p+20) m2;have bCO:R.pz (-1076)<=63/64*R.pz (-1075):=by
  have:=R.qA (-1075);rw[show(-1075:Int)-1=-1076 by rfl]at this;grind
 have y1:=Cg (p:=(rE fn x (p+80) (p+12)).1) (E:=-1076) (tG (by grind)) (by grind);have y2:=Cg (p:=(rE fn x (p+80) (p+12)).2) (E:=-1076) (tG (by grind)) (by grind);refine⟨so,co,bOJ,bOI,b1.yV,b2.yV,⟨z1,z2,z3,z4⟩,q0,q1,q2,bE.yV,bFJ,bFI,V0,?_,?_,?_,?_,?_,?_,?_⟩
 ·have:=R.bV (show(-1100:Int)<=-1075 by omega);grind
 ·have:=R.bV (show(1075:Int)<=1090 by omega);grind
 ·rw[e8];exact bX
 ·constructor
  ·show((bl (shD false (rE fn x (p+80) (p+12)).1 (p+20)).1.natAbs:Nat):Int)<=_;omega
  ·show((bl (shD true (rE fn x (p+80) (p+12)).2 (p+20)).1.natAbs:Nat):Int)<=_;omega
 ·have P1200:R.pz 1100<=R.pz (-p-1400+((p+2600).toNat:Nat)):=R.bV (by omega);refine Zy (E:=-p-1400) (n:=(p+2600).toNat) bX.ph bX.pl.Fq ?_ ?_ (by grind) ?_ (by omega) (by omega) (by omega)
  ·show -p-1400<=(shD true (rE fn x (p+80) (p+12)).2 (p+20)).2;omega
  ·show -p-1400<=(shD false (rE fn x (p+80) (p+12)).1 (p+20)).2;omega
  ·rw[oU,R.iI];grind
 ·have bFM:R.pz p*z=1/1048576:=by
   rw[hz,<-R.jI,show p+(-p-20)=-20 by omega];have e:=R.fG 0 (n:=20) (c:=1048576) (by norm_cast);rw[R.fQ,show(0:Int)-((20:Nat):Int)=-20 by rfl]at e;grind
  have wd:=bX.wd;have lo:=bX.lo;have hi:=bX.hi;have m0:=bX.m0;have k1:=R.aF (bZY (R.dC p)) (show 0<=4096*z*R.ab (R.fv fn (R.qz x) k)-(R.qz (eE fn x p).2-R.qz (eE fn x p).1) by grind);have k2:R.pz p*(4096*z*R.ab (R.fv fn (R.qz x) k))=R.ab (R.fv fn (R.qz x) k)/256:=by
   have:R.pz p*(4096*z*R.ab (R.fv fn (R.qz x) k))=4096*(R.pz p*z)*R.ab (R.fv fn (R.qz x) k):=by grind
   rw[this,bFM];grind
  refine aOC (by grind) ?_
  by_cases c:0<R.fv fn (R.qz x) k
  ·left;have s:=nX.2.2.2.2.1 c;rw[R.bG (bZY c)]at *;have e:=R.bG (bZY s);refine⟨s,?_⟩;have:=nX.1;rw[e]at this;grind
  ·right;have s:=nX.2.2.2.2.2.1 (by grind);have e:R.ab (R.qz (eE fn x p).2)=-R.qz (eE fn x p).2:=by rw[<-R.iI,R.bG (by grind)]
   refine⟨s,?_⟩;have:=nX.2.2.1;rw[e]at this;grind
 ·intro h2;exact⟨Qr (by omega) (oE h2).1,Qr (by omega) (oE h2).2⟩
end M
namespace W
open Go AI M
namespace eZ
def E:=mE [(83,Aq.aJ)] 42 [26] [(3,[1])] [3]
def aE:=bd f172
theorem aX:Nk E aE:=nk
def J3 a:=mT E f172 aE 3 [dG a]
theorem start a b c:aH E f172 aE [D.s (sc (int i64 a)),D.s (sc (int u64 b)),D.s (sc (int i64 c))]=letI A:=some [D.s (sc (bool false)),D.s (sc (int i64 1))];aB (decide (a<1)) A (aB (decide (3<a)) A (aB (decide (c<1)) A (aB (decide (66000<c)) A (eZ.J3 b)))):=eJ aX
theorem iA a:J3 a=letI A:=bif cS.fO 64 a then fB.fW (aI.fS 64) (a%9223372036854775808)else(0:Int);letI B:=some [D.s (sc (bool (A==0))),D.s (sc (int i64 6))];aO (((64:Int)=(32:Int)\/(64:Int)=(64:Int))/\0<=a/\a<18446744073709551616) (aB (A==3) B (aB (A==4) B (some [D.s (sc (bool (A==0))),D.s (sc (int i64 (bif cS.fO 64 a then(0:Int)else(2:Int))))]))):=cJ aX
def Nc(b:Int):Int:=bif cS.fO 64 b then fB.fW (aI.fS 64) (b%9223372036854775808)else 0
def Tj(fn b p:Int):Int:=if fn<1 then 1 else if 3<fn then 1 else if p<1 then 1 else if 66000<p then 1 else if Nc b=3 then 6 else if Nc b=4 then 6 else bif cS.fO 64 b then 0 else 2
def aGD(fn b p:Int):Bool:=if fn<1 then false else if 3<fn then false else if p<1 then false else if 66000<p then false else Nc b==0
def sp(fn b p:Int):Prop×List D:=(0<=b/\b<18446744073709551616,[.s (.sc (.bool (aGD fn b p))),.s (.sc (.int .i64 (Tj fn b p)))])
theorem spec:oP E f172 aE (pN .i64) (pN .u64) (pN .i64) sp:=by
 intro fn b p h;refine(start fn b p).trans ?_;unfold sp Tj aGD;dsimp only
 by_cases c1:fn<1
 ·rw[aQ c1,if_pos c1,if_pos c1]
 ·rw[aL c1,if_neg c1,if_neg c1]
  by_cases c2:3<fn
  ·rw[aQ c2,if_pos c2,if_pos c2]
  ·rw[aL c2,if_neg c2,if_neg c2]
   by_cases c3:p<1
   ·rw[aQ c3,if_pos c3,if_pos c3]
   ·rw[aL c3,if_neg c3,if_neg c3]
    by_cases c4:66000<p
    ·rw[aQ c4,if_pos c4,if_pos c4]
    ·rw[aL c4,if_neg c4,if_neg c4,iA,gP ⟨Or.inr rfl,h.1,h.2⟩];show aB (Nc b==3) (some [_,_]) (aB (Nc b==4) (some [_,_]) (some [D.s (.sc (.bool (Nc b==0))),_]))=_
     by_cases c5:Nc b=3
     ·rw[cN c5,if_pos c5];rfl
     ·rw[bM c5,if_neg c5]
      by_cases c6:Nc b=4
      ·rw[cN c6,if_pos c6];rfl
      ·rw[bM c6,if_neg c6]
def aJ:dO:=orc3 (pN .i64) (pN .u64) (pN .i64) sp
theorem ok:OK 172 aJ:=(fA E aE (aA Aq.ok aD) func172).yM rfl spec
end eZ
namespace aAC
def E:=mE [(211,aZ.aJ),(115,mI.aJ),(116,cC.aJ),(212,VTurned.aJ),(119,iQ.aJ)] 72 [18,29,39,50,69] [] []
def aE:=bd f173
theorem aX:Nk E aE:=nk
theorem start a b c d:aH E f173 aE [D.s (sc (int i64 a)),D.s (sc (int u64 b)),D.s (sc (int i64 c)),D.s (sc (int i64 d))]=letI Z:=sc (int i64 0);letI F:=aZ.qM b;letI W:=aZ.Xm F c;letI U:=aZ.Xl F c;aO ((0<=b/\b<18446744073709551616)/\cS.fO 64 b=true/\cA.jB 64 b=true/\(1<=c/\c<=66590)/\jJ F/\bl F.fst.natAbs<=64/\(-1200:Int)<=F.snd/\F.snd<=1200) (aC (isNeg U.fst) fun e=>aC (M6.dg U.fst.natAbs) fun f=>aC U.snd fun g=>aC (isNeg W.fst) fun h=>aC (M6.dg W.fst.natAbs) fun i=>aC W.snd fun j=>letI G:=(e,f,g,h,i,j);letI P:=fH.Jt (dv (gX G)) (d+2);letI O:=fH.Js (dv (gW G)) (d+2);letI K:=bC.rN (dv (cC.zU G)) (d+2);letI I:=bC.qN (dv (cC.tF G)) (d+2);aO (mI.Tw G d) (aC (isNeg O.fst) fun k=>aC (M6.dg O.fst.natAbs) fun l=>aC O.snd fun m=>aC (isNeg P.fst) fun n=>aC (M6.dg P.fst.natAbs) fun o=>aC P.snd fun p=>letI A1:=(k,l,m,n,o,p);aO (cC.Zp G d) (aC (isNeg K.fst) fun q=>aC (M6.dg K.fst.natAbs) fun r=>aC K.snd fun s=>aC (isNeg I.fst) fun t=>aC (M6.dg I.fst.natAbs) fun u=>aC I.snd fun v=>letI B1:=(q,r,s,t,u,v);letI A:=VTurned.trn (dv (gW A1),dv (gX A1)) (dv (gW B1),dv (gX B1)) (aZ.cQ F c).toNat;aO (eQ A1/\eQ B1/\0<=aZ.cQ F c/\aZ.cQ F c<=3) (aC (isNeg A.fst.fst.fst) fun w=>aC (M6.dg A.fst.fst.fst.natAbs) fun x=>aC A.fst.fst.snd fun y=>aC (isNeg A.fst.snd.fst) fun z=>aC (M6.dg A.fst.snd.fst.natAbs) fun aa=>aC A.fst.snd.snd fun ab=>letI N:=(w,x,y,z,aa,ab);letI D1:=dv (gX N);letI C1:=dv (gW N);aC (isNeg A.snd.fst.fst) fun ac=>aC (M6.dg A.snd.fst.fst.natAbs) fun ad=>aC A.snd.fst.snd fun ae=>aC (isNeg A.snd.snd.fst) fun af=>aC (M6.dg A.snd.snd.fst.natAbs) fun ag=>aC A.snd.snd.snd fun ah=>letI H:=(ac,ad,ae,af,ag,ah);letI Y:=dv (gX H);letI X:=dv (gW H);letI C:=iQ.Kb (i64.wrap (d+8)) C1 D1 X Y;letI T:=aN C.fst C.snd;letI B:=iQ.Ka (i64.wrap (d+8)) C1 D1 X Y;letI Q:=aN B.fst B.snd;aB (a==1) (some [D.agg [sc (bool w),ints u64 x,sc (int i64 y),sc (bool z),ints u64 aa,sc (int i64 ab)],D.s Z]) (aB (a==2) (some [D.agg [sc (bool ac),ints u64 ad,sc (int i64 ae),sc (bool af),ints u64 ag,sc (int i64 ah)],D.s Z]) (aO (eQ N/\eQ H/\(1<=i64.wrap (d+8)/\i64.wrap (d+8)<=70000)/\fL.sF X Y≠0/\(bl C1.fst.natAbs<=262144/\bl D1.fst.natAbs<=262144/\bl X.fst.natAbs<=262144/\bl Y.fst.natAbs<=262144)/\gT B.fst B.snd=true/\gT C.fst C.snd=true) (aC (isNeg Q.fst) fun ai=>aC (M6.dg Q.fst.natAbs) fun aj=>aC Q.snd fun ak=>aC (isNeg T.fst) fun al=>aC (M6.dg T.fst.natAbs) fun am=>aC T.snd fun an=>some [D.agg [sc (bool ai),ints u64 aj,sc (int i64 ak),sc (bool al),ints u64 am,sc (int i64 an)],D.s Z]))))))):=eJ aX
def sp(fn b w p:Int):Prop×List D:=((1<=fn/\fn<=3)/\(0<=b/\b<18446744073709551616)/\cS.fO 64 b=true/\cA.jB 64 b=true/\aAH (aZ.qM b)/\(13<=p/\p<=66012)/\w=p+68,[uV (rE fn (aZ.qM b) w p).1 (rE fn (aZ.qM b) w p).2,.s (.sc (.int .i64 0))])
theorem fold(a b:Int×Int):(isNeg a.1,M6.dg a.1.natAbs,a.2,isNeg b.1,M6.dg b.1.natAbs,b.2)=mM a b:=rfl
theorem spec:Of E f173 aE (pN .i64) (pN .u64) (pN .i64) (pN .i64) sp:=by
 rintro fn b w p ⟨hf,hb,aUT,oV,hx,hp,hw⟩;obtain⟨pp,rfl⟩:∃pp,p=pp+12:=⟨p-12,by omega⟩;obtain rfl:w=pp+80:=by omega
 refine(start fn b (pp+80) (pp+12)).trans ?_;obtain⟨k,hk⟩:=Ij (w:=pp+80) hx (by omega);have N:=tZ (fn:=fn) (p:=pp) hx (by omega) hf hk;have q4:0<=aZ.cQ (aZ.qM b) (pp+80)/\aZ.cQ (aZ.qM b) (pp+80)<=3:=by rw[hk.q];omega
 have eb:=hx.bl;have xe0:=hx.e0;have xe1:=hx.e1;have aGV:pp+12+2=pp+14:=by omega
 have bJX:pp+12+8=pp+20:=by omega
 have bOD:i64.wrap (pp+20)=pp+20:=wrap_i64;have so:=N.so;have co:=N.co;have sS:=N.sS;have sC:=N.sC;have t1:=N.t1;have t2:=N.t2;obtain⟨z1,z2,z3,z4⟩:=N.z;unfold sp rE rQ;dsimp only;rw[aGV,bJX,bOD,gP ⟨hb,aUT,oV,⟨by omega,by omega⟩,hx.uZ,by omega,by omega,by omega⟩,aG,aG,aG,aG,aG,aG,fold];refine(gP so).trans ?_;rw[oL,oM,aG,aG,aG,aG,aG,aG,fold];refine(gP co).trans ?_;rw[aG,aG,aG,aG,aG,aG,fold];refine(gP ⟨sS,sC,q4.1,q4.2⟩).trans ?_;rw[oL,oM,oL,oM];have eT:VTurned.trn (fH.Js (aZ.Xl (aZ.qM b) (pp+80)) (pp+14),fH.Jt (aZ.Xm (aZ.qM b) (pp+80)) (pp+14)) (bC.rN (dv (cC.zU (mM (aZ.Xl (aZ.qM b) (pp+80)) (aZ.Xm (aZ.qM b) (pp+80))))) (pp+14),bC.qN (dv (cC.tF (mM (aZ.Xl (aZ.qM b) (pp+80)) (aZ.Xm (aZ.qM b) (pp+80))))) (pp+14)) (aZ.cQ (aZ.qM b) (pp+80)).toNat=pZ (aZ.qM b) (pp+80) (pp+14):=rfl;rw[eT,aG,aG,aG,aG,aG,aG,aG,aG,aG,aG,aG,aG];have h3:fn=1\/fn=2\/fn=3:=by omega
 rcases h3 with rfl |rfl |rfl
 ·rfl
 ·rfl
 ·rw[bM (by decide),bM (by decide),fold,fold,oL,oM,oL,oM];have p1:1<=pp+20:=by omega
  have p2:pp+20<=70000:=by omega
  have y1:=bVN z1.1 (show 100000<=262144 by decide);have y2:=bVN z2.1 (show 100000<=262144 by decide);have y3:=bVN z3.1 (show 100000<=262144 by decide);have y4:=bVN z4.1 (show 100000<=262144 by decide);have c:=And.intro t1 (And.intro t2 (And.intro (And.intro p1 p2) (And.intro N.q0 (And.intro (And.intro y1 (And.intro y2 (And.intro y3 y4))) (And.intro N.q1 N.q2)))));refine(gP c).trans ?_;rw[aG,aG,aG,aG,aG,aG];rfl
def aJ:dO:=orc4 (pN .i64) (pN .u64) (pN .i64) (pN .i64) sp
theorem ok:OK 173 aJ:=(fA E aE (aA aZ.ok (aA mI.ok (aA cC.ok (aA VTurned.ok (aA iQ.ok aD))))) func173).aNM rfl spec
end aAC
namespace Ae
def E:=mE [(162,Mu.aJ),(163,aXO.aJ),(164,Wu.aJ)] 31 [28] [] []
def aE:=bd f118
theorem aX:Nk E aE:=nk
theorem start a b d e f g c:aH E f118 aE [D.agg [sc (bool a),ints u64 b,sc (int i64 d)],D.agg [sc (bool e),ints u64 f,sc (int i64 g)],D.s (sc (int i64 c))]=letI B:=cD.nO true (dv (e,f,g)).fst (dv (e,f,g)).snd c;letI F:=bif gT B.fst B.snd then aN B.fst B.snd else((0:Int),(0:Int));letI A:=cD.nO false (dv (a,b,d)).fst (dv (a,b,d)).snd c;letI C:=bif gT A.fst A.snd then aN A.fst A.snd else((0:Int),(0:Int));aO (aP (a,b,d)/\1<=c/\c<=70000) (aC (isNeg C.fst) fun h=>aC (M6.dg C.fst.natAbs) fun i=>aC C.snd fun j=>aC (bif gT A.fst A.snd then(0:Int)else(5:Int)) fun k=>aO (aP (e,f,g)/\1<=c/\c<=70000) (aC (isNeg F.fst) fun l=>aC (M6.dg F.fst.natAbs) fun m=>aC F.snd fun n=>aC (bif gT B.fst B.snd then(0:Int)else(5:Int)) fun o=>aO (k=0/\o=0) (some [D.agg [sc (bool h),ints u64 i,sc (int i64 j),sc (bool l),ints u64 m,sc (int i64 n)],D.s (sc (int i64 0))]))):=eJ aX
def sp(x y:gB)(p:Int):Prop×List D:=(aP x/\aP y/\(1<=p/\p<=70000)/\wZ false (dv x) p=true/\wZ true (dv y) p=true,[uV (shD false (dv x) p) (shD true (dv y) p),.s (.sc (.int .i64 0))])
theorem spec:oP E f118 aE iW iW (pN .i64) sp:=by
 rintro x y p ⟨h1,h2,hp,i1,i2⟩;have bGI:gT (cD.nO false (dv (x.1,x.2.1,x.2.2)).1 (dv (x.1,x.2.1,x.2.2)).2 p).1 (cD.nO false (dv (x.1,x.2.1,x.2.2)).1 (dv (x.1,x.2.1,x.2.2)).2 p).2=true:=i1;have bGH:gT (cD.nO true (dv (y.1,y.2.1,y.2.2)).1 (dv (y.1,y.2.1,y.2.2)).2 p).1 (cD.nO true (dv (y.1,y.2.1,y.2.2)).1 (dv (y.1,y.2.1,y.2.2)).2 p).2=true:=i2;refine(start x.1 x.2.1 x.2.2 y.1 y.2.1 y.2.2 p).trans ?_;simp only[aG];rw[gP ⟨h1,hp⟩,gP ⟨h2,hp⟩,bGI,bGH,gP ⟨rfl,rfl⟩];rfl
def aJ:dO:=orc3 iW iW (pN .i64) sp
theorem ok:OK 118 aJ:=(fA E aE (aA Mu.ok (aA aXO.ok (aA Wu.ok aD))) func118).yM rfl spec
end Ae
namespace aMR
def E:=mE [(117,Cv.aJ),(118,Ae.aJ)] 23 [10,20] [] []
def aE:=bd f65
theorem aX:Nk E aE:=nk
theorem start a c d e f g b:aH E f65 aE [D.agg [sc (bool a),ints u64 c,sc (int i64 d),sc (bool e),ints u64 f,sc (int i64 g)],D.s (sc (int i64 b))]=letI C:=int i64 0;letI B:=M.shD true (dv (e,f,g)) b;letI A:=M.shD false (dv (a,c,d)) b;aO (eQ (a,c,d,e,f,g)) (aC (if 1<=b/\b<=70000 then(0:Int)else(1:Int)) fun h=>aB (h !=0) (some [D.agg [sc (bool false),sc (slice none 0 0),sc C,sc (bool false),sc (slice none 0 0),sc C],D.s (sc (int i64 h))]) (aO (aP (a,c,d)/\aP (e,f,g)/\(1<=b/\b<=70000)/\wZ false (dv (a,c,d)) b=true/\wZ true (dv (e,f,g)) b=true) (aC (isNeg A.fst) fun i=>aC (M6.dg A.fst.natAbs) fun j=>aC A.snd fun k=>aC (isNeg B.fst) fun l=>aC (M6.dg B.fst.natAbs) fun m=>aC B.snd fun n=>some [D.agg [sc (bool i),ints u64 j,sc (int i64 k),sc (bool l),ints u64 m,sc (int i64 n)],D.s (sc C)]))):=eJ aX
def sp(s:wW)(p:Int):Prop×List D:=(eQ s/\(1<=p/\p<=70000)/\wZ false (dv (gW s)) p=true/\wZ true (dv (gX s)) p=true,[uV (shD false (dv (gW s)) p) (shD true (dv (gX s)) p),.s (.sc (.int .i64 0))])
theorem spec:gU E f65 aE yH (pN .i64) sp:=by
 rintro s p ⟨h1,hp,i1,i2⟩;refine(start s.1 s.2.1 s.2.2.1 s.2.2.2.1 s.2.2.2.2.1 s.2.2.2.2.2 p).trans ?_;rw[gP h1,aG,if_pos hp,gE rfl];exact gP ⟨h1.1,h1.2.1,hp,i1,i2⟩
def aJ:dO:=orc2 yH (pN .i64) sp
theorem ok:OK 65 aJ:=(fA E aE (aA Cv.ok (aA Ae.ok aD)) func65).mV rfl spec
end aMR
namespace kC
def E:=mE [(172,eZ.aJ),(113,Ct.aJ),(14,aNF.aJ),(173,aAC.aJ),(65,aMR.aJ),(174,En.aJ)] 93 [19,32,37,52,69,79] [(10,[0,1,2,6,10]),(6,[0,1,2,6,8]),(13,[0,1,2,6,10,11,12])] [6,13]
def aE:=bd f125
theorem aX:Nk E aE:=nk
def J6 a b c d e f g h:=mT E f125 aE 6 [cK a,dG b,cK c,dK 3 44 [cU d,sc (slice none 0 0),cX e,cU f,sc (slice none 0 0),cX g],Nd h]
def Gy a b c d e f g h:=sJ E f125 aE 10 [cK a,dG b,cK c,dK 3 44 [cU d,sc (slice none 0 0),cX e,cU f,sc (slice none 0 0),cX g],cK h]
def Qb a b c d e f g h i j k l m n o:=mT E f125 aE 13 [cK a,dG b,cK c,dK 3 44 [cU d,sc (slice none 0 0),cX e,cU f,sc (slice none 0 0),cX g],cK h,dK 5 44 [cU i,fU j,cX k,cU l,fU m,cX n],cK o]
theorem start a b c:aH E f125 aE [D.s (sc (int i64 a)),D.s (sc (int u64 b)),D.s (sc (int i64 c))]=letI B:=int i64 0;letI A:=kC.J6 a b c false 0 false 0 (eZ.aGD a b c);aO (0<=b/\b<18446744073709551616) (aB (eZ.Tj a b c !=0) (some [D.agg [sc (bool false),sc (slice none 0 0),sc B,sc (bool false),sc (slice none 0 0),sc B],D.s (sc (int i64 (eZ.Tj a b c)))]) (aB (eZ.aGD a b c) (aB (a==2) (aO ((-9223372036854775808:Int)<=(1:Int)/\(1:Int)<(9223372036854775808:Int)) (aC (isNeg (aN 1 0).fst) fun d=>aC (M6.dg (aN 1 0).fst.natAbs) fun e=>aC (aN 1 0).snd fun f=>aO (aP (d,e,f)) (some [D.agg [sc (bool d),ints u64 e,sc (int i64 f),sc (bool d),ints u64 e,sc (int i64 f)],D.s (sc B)]))) A) A)):=eJ aX
theorem Wy a b c d e f g h:J6 a b c d e f g h=aB h (aO ((-9223372036854775808:Int)<=(0:Int)/\(0:Int)<(9223372036854775808:Int)) (aC (isNeg (aN 0 0).fst) fun i=>aC (M6.dg (aN 0 0).fst.natAbs) fun j=>aC (aN 0 0).snd fun k=>aO (aP (i,j,k)) (some [D.agg [sc (bool i),ints u64 j,sc (int i64 k),sc (bool i),ints u64 j,sc (int i64 k)],D.s (sc (int i64 0))]))) (kC.Gy a b c d e f g (i64.wrap (c+80))):=cJ aX
theorem qQ a b c d e f g h:Gy a b c d e f g h=letI A:=rE a (aZ.qM b) (if 68000<h then(68000:Int)else h) (i64.wrap (c+12));aO ((1<=a/\a<=3)/\(0<=b/\b<18446744073709551616)/\cS.fO 64 b=true/\cA.jB 64 b=true/\aAH (aZ.qM b)/\(13<=i64.wrap (c+12)/\i64.wrap (c+12)<=66012)/\(if 68000<h then(68000:Int)else h)=i64.wrap (c+12)+68) (aC (isNeg A.fst.fst) fun i=>aC (M6.dg A.fst.fst.natAbs) fun j=>aC A.fst.snd fun k=>aC (isNeg A.snd.fst) fun l=>aC (M6.dg A.snd.fst.natAbs) fun m=>aC A.snd.snd fun n=>kC.Qb a b c d e f g (if 68000<h then(68000:Int)else h) i j k l m n 0):=lJ aX
theorem yD a b c d e f g h i j k l m n o:Qb a b c d e f g h i j k l m n o=letI K:=int i64 0;letI H:=(i,j,k,l,m,n);letI G:=i64.wrap (c+20);letI C:=M.shD true (dv (gX H)) G;letI B:=M.shD false (dv (gW H)) G;aB (o !=0) (some [D.agg [sc (bool false),sc (slice none 0 0),sc K,sc (bool false),sc (slice none 0 0),sc K],D.s (sc (int i64 o))]) (aO (eQ H/\(1<=i64.wrap (c+20)/\i64.wrap (c+20)<=70000)/\wZ false (dv (gW H)) G=true/\wZ true (dv (gX H)) G=true) (aC (isNeg B.fst) fun p=>aC (M6.dg B.fst.natAbs) fun q=>aC B.snd fun r=>aC (isNeg C.fst) fun s=>aC (M6.dg C.fst.natAbs) fun t=>aC C.snd fun u=>letI F:=(p,q,r,s,t,u);letI I:=dv (gW F);letI A:=some [D.agg [sc (bool p),ints u64 q,sc (int i64 r),sc (bool s),ints u64 t,sc (int i64 u)],D.s (sc K)];aO (eQ F/\(1<=c/\c<=70000)/\bI.jW (dv (gX F)) (-I.fst,I.snd)=true) (aC (En.aXR I (dv (gX F)) c) fun v=>aB v A (aB (h==68000) A (kC.Gy a b c d e f g (i64.wrap (h+64))))))):=cJ aX
def aQN(fn b p:Int):(Int×Int)×(Int×Int):=if eZ.Tj fn b p≠0 then((0,0),(0,0))else bif eZ.aGD fn b p then(if fn=2 then((1,0),(1,0))else((0,0),(0,0)))else eE fn (aZ.qM b) p
def sp(fn b p:Int):Prop×List D:=(0<=b/\b<18446744073709551616,[uV (aQN fn b p).1 (aQN fn b p).2,.s (.sc (.int .i64 (eZ.Tj fn b p)))])
theorem fold(a b:Int×Int):(isNeg a.1,M6.dg a.1.natAbs,a.2,isNeg b.1,M6.dg b.1.natAbs,b.2)=mM a b:=rfl
theorem aLS{b:Int}(hb:0<=b/\b<18446744073709551616)(c0:eZ.Nc b≠0)(c3:eZ.Nc b≠3)(c4:eZ.Nc b≠4):cS.fO 64 b=true/\cA.jB 64 b=true/\aXN (bP.nB 64 b) (bP.nH 64 b):=by
 have hp:cS.fO 64 b=true:=rfl;unfold eZ.Nc at c0 c3 c4;rw[hp,cond_true]at c0 c3 c4;have e1:cG.kI (aI.fS 64)=4503599627370496:=rfl;have e2:jZ.lK (aI.fS 64)=9218868437227405312:=rfl;have e3:cE.cT (aI.fS 64)=9223372036854775808:=rfl;have e4:(aI.fS 64).2.2.1=-1074:=rfl;unfold fB.fW at c0 c3 c4;rw[e1,e2]at c0 c3 c4;have n0:b%9223372036854775808≠0:=fun h=>by rw[h,if_pos rfl]at c0;exact c0 rfl
 have n1:b%9223372036854775808<9218868437227405312:=by
  rw[if_neg n0]at c3 c4
  by_cases h1:b%9223372036854775808<4503599627370496
  ·omega
  ·rw[if_neg h1]at c3 c4
   by_cases h2:b%9223372036854775808<9218868437227405312
   ·exact h2
   ·rw[if_neg h2]at c3 c4
    by_cases h3:b%9223372036854775808=9218868437227405312
    ·rw[if_pos h3]at c3;exact absurd rfl c3
    ·rw[if_neg h3]at c4;exact absurd rfl c4
 refine⟨hp,?_,?_⟩
 ·unfold cA.jB;rw[e2,e3];exact decide_eq_true n1
 ·have hz:(bP.nB 64 b).natAbs=(dU.qF (aI.fS 64) (b%9223372036854775808)).toNat:=by
   unfold bP.nB;rw[lP,e3]
  have hm:0<dU.qF (aI.fS 64) (b%9223372036854775808)/\dU.qF (aI.fS 64) (b%9223372036854775808)<9007199254740992:=by
   unfold dU.qF;rw[e1];split <;> omega
  have he:-1074<=bP.nH 64 b/\bP.nH 64 b<=971:=by
   unfold bP.nH dU.tW;rw[e1,e3,e4];split <;> omega
  exact⟨by omega,by omega,he.1,he.2⟩
theorem told{fn b p:Int}(c:eZ.Tj fn b p=0)(hz:eZ.aGD fn b p=false):(1<=fn/\fn<=3)/\(1<=p/\p<=66000)/\eZ.Nc b≠0/\eZ.Nc b≠3/\eZ.Nc b≠4:=by
  unfold eZ.Tj at c;unfold eZ.aGD at hz
  by_cases c1:fn<1
  ·rw[if_pos c1]at c;omega
  ·rw[if_neg c1]at c hz
   by_cases c2:3<fn
   ·rw[if_pos c2]at c;omega
   ·rw[if_neg c2]at c hz
    by_cases c3:p<1
    ·rw[if_pos c3]at c;omega
    ·rw[if_neg c3]at c hz
     by_cases c4:66000<p
     ·rw[if_pos c4]at c;omega
     ·rw[if_neg c4]at c hz
      by_cases c5:eZ.Nc b=3
      ·rw[if_pos c5]at c;omega
      ·rw[if_neg c5]at c
       by_cases c6:eZ.Nc b=4
       ·rw[if_pos c6]at c;omega
       ·exact⟨by omega,by omega,beq_eq_false_iff_ne.1 hz,c5,c6⟩
theorem spec:aWV E f125 aE (pN .i64) (pN .u64) (pN .i64) sp:=by
 intro fn b p h;have h:0<=b/\b<18446744073709551616:=h;have s:=(start fn b p).trans (gP h);unfold sp aQN;dsimp only
 by_cases c:eZ.Tj fn b p=0
 ·rw[aU,c];rw[c,gE rfl]at s;cases hz:eZ.aGD fn b p with
  |true =>
   rw[cond_true];rw[hz,bT]at s
   by_cases f2:fn=2
   ·rw[if_pos f2];have e:aN 1 0=(1,0):=by decide +kernel
    rw[cN f2,gP ⟨by decide,by decide⟩,e,aG,aG,aG,gP (dJ (show jJ (1,0)from e▸gJ (gO (by decide +kernel) (by decide +kernel)) (by decide +kernel)))]at s;exact⟨_,s,iE.refl _⟩
   ·rw[if_neg f2];have e:aN 0 0=(0,0):=fC ..;rw[bM f2,Wy,bT,gP ⟨by decide,by decide⟩,e,aG,aG,aG,gP (dJ (show jJ (0,0)from e▸gJ (gO (by decide +kernel) (by decide +kernel)) (by decide +kernel)))]at s;exact⟨_,s,iE.refl _⟩
  |false =>
   rw[cond_false];have hv:=told c hz;obtain⟨hf,hp,v0,v3,v4⟩:=hv;obtain⟨aUT,oV,hN⟩:=aLS h v0 v3 v4;have hx:aAH (aZ.qM b):=bCT hN;obtain⟨k,hk⟩:=Ij (w:=p+80) hx (by omega);have N:=tZ (fn:=fn) (p:=p) hx hp hf hk;have w1:i64.wrap (p+80)=p+80:=wrap_i64;have w2:i64.wrap (p+12)=p+12:=wrap_i64;have w3:i64.wrap (p+20)=p+20:=wrap_i64;have p1:1<=p+20/\p+20<=70000:=⟨by omega,by omega⟩;have p2:1<=p/\p<=70000:=⟨by omega,by omega⟩;have bTX:p+80=p+12+68:=by omega
   have u:=N.bx;obtain⟨re,s1,s2,ok,th⟩:=And.intro N.re (And.intro N.s1 (And.intro N.s2 (And.intro N.ok N.thin)));have yV:eQ (mM (eE fn (aZ.qM b) p).1 (eE fn (aZ.qM b) p).2):=u.yV;unfold eE at ok th yV ⊢;rw[hz,bF,Wy,bF,w1,qQ,w2,if_neg (show ¬(68000:Int)<p+80 by omega),gP ⟨hf,h,aUT,oV,hx,⟨by omega,by omega⟩,bTX⟩]at s;generalize rE fn (aZ.qM b) (p+80) (p+12)=q at *;rw[aG,aG,aG,aG,aG,aG,yD,gE rfl,w3,fold,oL,oM]at s;have s:=s.trans (gP ⟨re,p1,s1,s2⟩);dsimp only at ok th yV ⊢;generalize M.shD false q.1 (p+20)=lo at *;generalize M.shD true q.2 (p+20)=hi at *;rw[aG,aG,aG,aG,aG,aG,fold,oL,oM]at s;have s:=s.trans (gP ⟨yV,p2,ok⟩);rw[aG,th,bT]at s;exact⟨_,s,iE.refl _⟩
 ·rw[if_pos c];rw[oI c]at s;refine⟨_,s,.cons ?_ (iE.refl _)⟩;have d0:M6.dg ((0,0):Int×Int).1.natAbs=[]:=M6.cF;unfold uV;dsimp only;rw[show(0:Int).natAbs=0 from rfl,M6.cF];exact yQ.agg (.cons (Cu.refl _) (.cons (Cu.nil _) (.cons (Cu.refl _) (.cons (Cu.refl _) (.cons (Cu.nil _) (yE.refl _))))))
def aJ:dO:=orc3 (pN .i64) (pN .u64) (pN .i64) sp
theorem ok:OK 125 aJ:=(fA E aE (aA eZ.ok (aA Ct.ok (aA aNF.ok (aA aAC.ok (aA aMR.ok (aA En.ok aD)))))) func125).bFG rfl spec
end kC
end W
namespace M
open Go AI W
theorem aMD{b:Int}:eZ.Nc b=(if b%9223372036854775808=0 then 0 else if b%9223372036854775808<4503599627370496 then 1 else if b%9223372036854775808<9218868437227405312 then 2 else if b%9223372036854775808=9218868437227405312 then 3 else 4):=by
 have hp:cS.fO 64 b=true:=rfl;have e1:cG.kI (aI.fS 64)=4503599627370496:=rfl;have e2:jZ.lK (aI.fS 64)=9218868437227405312:=rfl;have e3:cE.cT (aI.fS 64)=9223372036854775808:=rfl;unfold eZ.Nc fB.fW;rw[hp,e1,e2,cond_true]
theorem aHC{fn b p:Int}:eZ.Tj fn b p=if fn<1 then 1 else if 3<fn then 1 else if p<1 then 1 else if 66000<p then 1 else if b%9223372036854775808<9218868437227405312 then 0 else 6:=by
 have hp:cS.fO 64 b=true:=rfl;unfold eZ.Tj;rw[aMD,hp,cond_true]
 repeat' (split <;> try rfl)
 all_goals omega
theorem aTG{fn b p:Int}(h:eZ.Tj fn b p=0):eZ.aGD fn b p=(b%9223372036854775808==0):=by
 rw[aHC]at h;unfold eZ.aGD;rw[aMD]
 by_cases c1:fn<1
 ·rw[if_pos c1]at h;omega
 ·rw[if_neg c1]at h ⊢
  by_cases c2:3<fn
  ·rw[if_pos c2]at h;omega
  ·rw[if_neg c2]at h ⊢
   by_cases c3:p<1
   ·rw[if_pos c3]at h;omega
   ·rw[if_neg c3]at h ⊢
    by_cases c4:66000<p
    ·rw[if_pos c4]at h;omega
    ·rw[if_neg c4]at h ⊢
     by_cases c5:b%9223372036854775808=0
     ·rw[if_pos c5,beq_iff_eq.2 c5];rfl
     ·rw[if_neg c5,beq_eq_false_iff_ne.2 c5]
      repeat' (split <;> try rfl)
def Real(b:Int):Prop:=(0<=b/\b<18446744073709551616)/\eZ.Nc b≠0/\eZ.Nc b≠3/\eZ.Nc b≠4
theorem Real.n{b:Int}(h:Real b):aXN (bP.nB 64 b) (bP.nH 64 b):=(kC.aLS h.1 h.2.1 h.2.2.1 h.2.2.2).2.2
theorem Real.x{b:Int}(h:Real b):aAH (aZ.qM b):=bCT h.n
theorem Real.q{b:Int}(_h:Real b):R.qz (aZ.qM b)=R.qz (bP.nB 64 b,bP.nH 64 b):=oH _ _
end M
namespace M
open Go AI W
open Classical in
def kx (b:Int):Int:=if h:∃k,R.rT (R.qz (aZ.qM b)) k then Classical.choose h else 0
theorem aCC{b:Int}(h:Real b):R.rT (R.qz (aZ.qM b)) (kx b):=by
 obtain⟨k,hk⟩:=Ij (w:=100) h.x (by omega);have e:∃k,R.rT (R.qz (aZ.qM b)) k:=⟨k,hk.Yl⟩;unfold kx;rw[dif_pos e];exact Classical.choose_spec e
theorem aWF{fn b p:Int}(h:Real b)(hf:1<=fn/\fn<=3)(hp:1<=p/\p<=66000):bDP fn (aZ.qM b) p (kx b):=by
 obtain⟨k,hk⟩:=Ij (w:=p+80) h.x (by omega);rw[R.aTH h.x.fit (aCC h) hk.Yl];exact tZ h.x hp hf hk
def vx(fn b:Int):Rat:=R.fv fn (R.qz (aZ.qM b)) (kx b)
theorem aOL{fn b p:Int}(hb:0<=b/\b<18446744073709551616)(c:eZ.Tj fn b p=0)(hz:¬b%9223372036854775808=0):Real b/\(1<=fn/\fn<=3)/\(1<=p/\p<=66000)/\eZ.aGD fn b p=false:=by
 have z:=aTG c;rw[beq_eq_false_iff_ne.2 hz]at z;obtain⟨hf,hp,v⟩:=kC.told c z;exact⟨⟨hb,v⟩,hf,hp,z⟩
theorem aLH{fn b p:Int}(c:eZ.Tj fn b p=0)(hz:eZ.aGD fn b p=false):kC.aQN fn b p=eE fn (aZ.qM b) p:=by
 unfold kC.aQN;rw[aU,hz,cond_false]
theorem bOO:R.qz (0,0)=0:=R.oC rfl
end M
namespace M
open Go AI W
structure bNT(x:Int×Int)(n:Nat)(E:Int)(B:Rat):Prop where
 uZ:jJ x
 bl:bl x.1.natAbs<=n
 e:E<=x.2
 b:R.ab (R.qz x)<=B
end M
namespace M
open Go AI W
theorem Dj(a b:Int×Int):R.qz (eF.gF a b)=R.qz a*R.qz b:=by
 unfold eF.gF;rw[oH,Rat.intCast_mul,R.jI];unfold R.qz;grind
end M
namespace W
open Go AI M
namespace Sr
def E:=mE [(120,Gv.aJ)] 9 [] [] []
def aE:=bd f170
theorem aX:Nk E aE:=nk
theorem start a b c d e f:aH E f170 aE [D.agg [sc (bool a),ints u64 b,sc (int i64 c)],D.agg [sc (bool d),ints u64 e,sc (int i64 f)]]=aO (aP (a,b,c)/\aP (d,e,f)) (some [D.s (sc (bool (decide (eB (dv (a,b,c)) (dv (d,e,f))<0))))]):=eJ aX
def sp(x y:gB):Prop×List D:=(aP x/\aP y,[.s (.sc (.bool (decide (eB (dv x) (dv y)<0))))])
theorem spec:gU E f170 aE iW iW sp:=by
 intro x y h;exact(start x.1 x.2.1 x.2.2 y.1 y.2.1 y.2.2).trans (gP h)
def aJ:dO:=orc2 iW iW sp
theorem ok:OK 170 aJ:=(fA E aE (aA Gv.ok aD) func170).mV rfl spec
end Sr
namespace SFirstL4
def E:=mE [(170,Sr.aJ)] 25 [] [(3,[1,4,5,12,13,14])] []
def aE:=bd f168
theorem aX:Nk E aE:=nk
def L3 a b c d e (f:Nat) (g:Nat->Bool) (h:Nat->List Int) (j:Nat->Int) k l:=sJ E f168 aE 3 [vA (sc (Value.func (Fn.func 170) { toList:=[] } { toList:=[] })),dK 1 29 [cU a,sc (slice none 0 0),cX b],dK 2 29 [cU c,fU d,cX e],(A.v (V.one (L.rows 3 f fun i=>[sc (bool (g i)),ints u64 (h i),sc (int i64 (j i))])),none),cK k,cK l]
theorem start(a:gB)(b:gB)(c:gB)(d:gB):aH E f168 aE [D.rows 3 4 fun i=>[sc (bool (t4 a b c d i).fst),ints u64 (t4 a b c d i).snd.fst,sc (int i64 (t4 a b c d i).snd.snd)],D.s (sc (Value.func (Fn.func (170:FuncId)) #[] #[]))]=letI A:=t4 a b c d (cIT 0);SFirstL4.L3 false 0 A.fst A.snd.fst A.snd.snd 3 (fun i=>(t4 a b c d (cIT 1+i)).fst) (fun i=>(t4 a b c d (cIT 1+i)).snd.fst) (fun i=>(t4 a b c d (cIT 1+i)).snd.snd) 3 0:=eJ aX
theorem An a b c d e f g h j k l:L3 a b c d e f g h j k l=letI A:=(g l.toNat,h l.toNat,j l.toNat);aB (decide (l<k)) (if 0<=l/\l<(f:Int)then aO (aP A/\aP (c,d,e)) (aB (decide (eB (dv A) (dv (c,d,e))<0)) (SFirstL4.L3 a b (g l.toNat) (h l.toNat) (j l.toNat) f (fun i=>g i) (fun i=>h i) (fun i=>j i) k (i64.wrap (l+1))) (SFirstL4.L3 a b c d e f (fun i=>g i) (fun i=>h i) (fun i=>j i) k (i64.wrap (l+1))))else none) (some [D.agg [sc (bool c),ints u64 d,sc (int i64 e)]]):=lJ aX
def best(f:Nat->gB):Nat->gB
 |0=>f 0
 |k+1=>bif decide (eB (dv (f (k+1))) (dv (best f k))<0)then f (k+1)else best f k
def Hu(a:gB×gB×gB×gB):gB:=best (t4 a.1 a.2.1 a.2.2.1 a.2.2.2) 3
def sp(a:gB×gB×gB×gB)(u:Unit):Prop×List D:=(aP a.1/\aP a.2.1/\aP a.2.2.1/\aP a.2.2.2,[.agg [.sc (.bool (Hu a).1),.ints .u64 (Hu a).2.1,.sc (.int .i64 (Hu a).2.2)]])
theorem xW{f:Nat->gB}{n:Nat}(hf:∀i,i<n->aP (f i)):∀k,k<n->aP (best f k)
 |0,h=>hf 0 h
 |k+1,h=>by
  unfold best;cases decide (eB (dv (f (k+1))) (dv (best f k))<0)
  ·exact xW hf k (by omega)
  ·exact hf (k+1) h
theorem L(b0:Bool)(x1:Int)(n:Nat)(f:Nat->gB)(hn:n<1000)(hf:∀i,i<n+1->aP (f i)):∀d k:Nat,k+d=n->L3 b0 x1 (best f k).1 (best f k).2.1 (best f k).2.2 n (fun i=>(f (1+i)).1) (fun i=>(f (1+i)).2.1) (fun i=>(f (1+i)).2.2) (n:Int) (k:Int)=some [.agg [.sc (.bool (best f n).1),.ints .u64 (best f n).2.1,.sc (.int .i64 (best f n).2.2)]]
 |0,k,h=>by
  obtain rfl:k=n:=by omega
  rw[An,aL]
 |d+1,k,h=>by
  have e:i64.wrap ((k:Int)+1)=((k+1:Nat):Int):=by rw[wrap_i64];omega
  have r:=L b0 x1 n f hn hf d (k+1) (by omega);have g1:aP (f (1+k)):=hf _ (by omega);have g2:aP (best f k):=xW hf k (by omega);have c1:f (k+1)=f (1+k):=by rw[Nat.add_comm]
  rw[An,aQ,aW,bYO,gP ⟨g1,g2⟩,e]
  by_cases hc:eB (dv (f (k+1))) (dv (best f k))<0
  ·have hb:best f (k+1)=f (1+k):=by
    rw[<-c1];show(bif decide (eB (dv (f (k+1))) (dv (best f k))<0)then f (k+1)else best f k)=_;rw[decide_eq_true hc];rfl
   rw[c1]at hc;rw[aQ hc];rw[hb]at r;exact r
  ·have hb:best f (k+1)=best f k:=by
    show(bif decide (eB (dv (f (k+1))) (dv (best f k))<0)then f (k+1)else best f k)=_;rw[decide_eq_false hc];rfl
   rw[c1]at hc;rw[aL hc];rw[hb]at r;exact r
theorem all{a:gB×gB×gB×gB}(h:aP a.1/\aP a.2.1/\aP a.2.2.1/\aP a.2.2.2):∀i,i<4->aP (t4 a.1 a.2.1 a.2.2.1 a.2.2.2 i):=fun i hi=>by
  obtain rfl |rfl |rfl |rfl:i=0\/i=1\/i=2\/i=3:=by omega
  ·exact h.1
  ·exact h.2.1
  ·exact h.2.2.1
  ·exact h.2.2.2
theorem Zr{a:gB×gB×gB×gB}(h:aP a.1/\aP a.2.1/\aP a.2.2.1/\aP a.2.2.2):aP (Hu a):=xW (n:=4) (all h) 3 (by decide)
theorem spec:gU E f168 aE (aSA (.pair sB (.pair (sI .u64) (sN .i64))) (false,[],0)) (pFn 170) sp:=fun a u h =>
 (start a.1 a.2.1 a.2.2.1 a.2.2.2).trans (L false 0 3 (t4 a.1 a.2.1 a.2.2.1 a.2.2.2) (by decide) (all h) 3 0 (by decide))
def aJ:dO:=orc2 (aSA (.pair sB (.pair (sI .u64) (sN .i64))) (false,[],0)) (pFn 170) sp
theorem ok:OK 168 aJ:=(fA E aE (aA Sr.ok aD) func168).mV rfl spec
end SFirstL4
namespace Sq
def E:=mE [(168,SFirstL4.aJ)] 5 [] [] []
def aE:=bd f122
theorem aX:Nk E aE:=nk
theorem start(a:gB)(b:gB)(c:gB)(d:gB):aH E f122 aE [D.rows 3 4 fun i=>[sc (bool (t4 a b c d i).fst),ints u64 (t4 a b c d i).snd.fst,sc (int i64 (t4 a b c d i).snd.snd)]]=letI G:=t4 a b c d 3;letI F:=t4 a b c d 2;letI K:=(F.fst,F.snd.fst,F.snd.snd);letI C:=t4 a b c d 1;letI I:=(C.fst,C.snd.fst,C.snd.snd);letI B:=t4 a b c d 0;letI H:=(B.fst,B.snd.fst,B.snd.snd);letI A:=SFirstL4.Hu (H,I,K,G.fst,G.snd.fst,G.snd.snd);aO (aP H/\aP I/\aP K/\aP (G.fst,G.snd.fst,G.snd.snd)) (some [D.agg [sc (bool A.fst),ints u64 A.snd.fst,sc (int i64 A.snd.snd)]]):=eJ aX
def sp(a:gB×gB×gB×gB):Prop×List D:=(aP a.1/\aP a.2.1/\aP a.2.2.1/\aP a.2.2.2,[.agg [.sc (.bool (SFirstL4.Hu a).1),.ints .u64 (SFirstL4.Hu a).2.1,.sc (.int .i64 (SFirstL4.Hu a).2.2)]])
theorem spec:jD E f122 aE (aSA (.pair sB (.pair (sI .u64) (sN .i64))) (false,[],0)) sp:=fun a h =>
 (start a.1 a.2.1 a.2.2.1 a.2.2.2).trans (gP h)
def aJ:dO:=orc1 (aSA (.pair sB (.pair (sI .u64) (sN .i64))) (false,[],0)) sp
theorem ok:OK 122 aJ:=(fA E aE (aA SFirstL4.ok aD) func122).pU rfl spec
end Sq
namespace Su
def E:=mE [(120,Gv.aJ)] 9 [] [] []
def aE:=bd f169
theorem aX:Nk E aE:=nk
theorem start a b c d e f:aH E f169 aE [D.agg [sc (bool a),ints u64 b,sc (int i64 c)],D.agg [sc (bool d),ints u64 e,sc (int i64 f)]]=aO (aP (a,b,c)/\aP (d,e,f)) (some [D.s (sc (bool (decide (0<eB (dv (a,b,c)) (dv (d,e,f))))))]):=eJ aX
def sp(x y:gB):Prop×List D:=(aP x/\aP y,[.s (.sc (.bool (decide (0<eB (dv x) (dv y)))))])
theorem spec:gU E f169 aE iW iW sp:=by
 intro x y h;exact(start x.1 x.2.1 x.2.2 y.1 y.2.1 y.2.2).trans (gP h)
def aJ:dO:=orc2 iW iW sp
theorem ok:OK 169 aJ:=(fA E aE (aA Gv.ok aD) func169).mV rfl spec
end Su
namespace SFirstG4
def E:=mE [(169,Su.aJ)] 25 [] [(3,[1,4,5,12,13,14])] []
def aE:=bd f168
theorem aX:Nk E aE:=nk
def L3 a b c d e (f:Nat) (g:Nat->Bool) (h:Nat->List Int) (j:Nat->Int) k l:=sJ E f168 aE 3 [vA (sc (Value.func (Fn.func 169) { toList:=[] } { toList:=[] })),dK 1 29 [cU a,sc (slice none 0 0),cX b],dK 2 29 [cU c,fU d,cX e],(A.v (V.one (L.rows 3 f fun i=>[sc (bool (g i)),ints u64 (h i),sc (int i64 (j i))])),none),cK k,cK l]
theorem start(a:gB)(b:gB)(c:gB)(d:gB):aH E f168 aE [D.rows 3 4 fun i=>[sc (bool (t4 a b c d i).fst),ints u64 (t4 a b c d i).snd.fst,sc (int i64 (t4 a b c d i).snd.snd)],D.s (sc (Value.func (Fn.func (169:FuncId)) #[] #[]))]=letI A:=t4 a b c d (cIT 0);SFirstG4.L3 false 0 A.fst A.snd.fst A.snd.snd 3 (fun i=>(t4 a b c d (cIT 1+i)).fst) (fun i=>(t4 a b c d (cIT 1+i)).snd.fst) (fun i=>(t4 a b c d (cIT 1+i)).snd.snd) 3 0:=eJ aX
theorem An a b c d e f g h j k l:L3 a b c d e f g h j k l=letI A:=(g l.toNat,h l.toNat,j l.toNat);aB (decide (l<k)) (if 0<=l/\l<(f:Int)then aO (aP A/\aP (c,d,e)) (aB (decide (0<eB (dv A) (dv (c,d,e)))) (SFirstG4.L3 a b (g l.toNat) (h l.toNat) (j l.toNat) f (fun i=>g i) (fun i=>h i) (fun i=>j i) k (i64.wrap (l+1))) (SFirstG4.L3 a b c d e f (fun i=>g i) (fun i=>h i) (fun i=>j i) k (i64.wrap (l+1))))else none) (some [D.agg [sc (bool c),ints u64 d,sc (int i64 e)]]):=lJ aX
def best(f:Nat->gB):Nat->gB
 |0=>f 0
 |k+1=>bif decide (0<eB (dv (f (k+1))) (dv (best f k)))then f (k+1)else best f k
def Hu(a:gB×gB×gB×gB):gB:=best (t4 a.1 a.2.1 a.2.2.1 a.2.2.2) 3
def sp(a:gB×gB×gB×gB)(u:Unit):Prop×List D:=(aP a.1/\aP a.2.1/\aP a.2.2.1/\aP a.2.2.2,[.agg [.sc (.bool (Hu a).1),.ints .u64 (Hu a).2.1,.sc (.int .i64 (Hu a).2.2)]])
theorem xW{f:Nat->gB}{n:Nat}(hf:∀i,i<n->aP (f i)):∀k,k<n->aP (best f k)
 |0,h=>hf 0 h
 |k+1,h=>by
  unfold best;cases decide (0<eB (dv (f (k+1))) (dv (best f k)))
  ·exact xW hf k (by omega)
  ·exact hf (k+1) h
theorem L(b0:Bool)(x1:Int)(n:Nat)(f:Nat->gB)(hn:n<1000)(hf:∀i,i<n+1->aP (f i)):∀d k:Nat,k+d=n->L3 b0 x1 (best f k).1 (best f k).2.1 (best f k).2.2 n (fun i=>(f (1+i)).1) (fun i=>(f (1+i)).2.1) (fun i=>(f (1+i)).2.2) (n:Int) (k:Int)=some [.agg [.sc (.bool (best f n).1),.ints .u64 (best f n).2.1,.sc (.int .i64 (best f n).2.2)]]
 |0,k,h=>by
  obtain rfl:k=n:=by omega
  rw[An,aL]
 |d+1,k,h=>by
  have e:i64.wrap ((k:Int)+1)=((k+1:Nat):Int):=by rw[wrap_i64];omega
  have r:=L b0 x1 n f hn hf d (k+1) (by omega);have g1:aP (f (1+k)):=hf _ (by omega);have g2:aP (best f k):=xW hf k (by omega);have c1:f (k+1)=f (1+k):=by rw[Nat.add_comm]
  rw[An,aQ,aW,bYO,gP ⟨g1,g2⟩,e]
  by_cases hc:0<eB (dv (f (k+1))) (dv (best f k))
  ·have hb:best f (k+1)=f (1+k):=by
    rw[<-c1];show(bif decide (0<eB (dv (f (k+1))) (dv (best f k)))then f (k+1)else best f k)=_;rw[decide_eq_true hc];rfl
   rw[c1]at hc;rw[aQ hc];rw[hb]at r;exact r
  ·have hb:best f (k+1)=best f k:=by
    show(bif decide (0<eB (dv (f (k+1))) (dv (best f k)))then f (k+1)else best f k)=_;rw[decide_eq_false hc];rfl
   rw[c1]at hc;rw[aL hc];rw[hb]at r;exact r
theorem all{a:gB×gB×gB×gB}(h:aP a.1/\aP a.2.1/\aP a.2.2.1/\aP a.2.2.2):∀i,i<4->aP (t4 a.1 a.2.1 a.2.2.1 a.2.2.2 i):=fun i hi=>by
  obtain rfl |rfl |rfl |rfl:i=0\/i=1\/i=2\/i=3:=by omega
  ·exact h.1
  ·exact h.2.1
  ·exact h.2.2.1
  ·exact h.2.2.2
theorem Zr{a:gB×gB×gB×gB}(h:aP a.1/\aP a.2.1/\aP a.2.2.1/\aP a.2.2.2):aP (Hu a):=xW (n:=4) (all h) 3 (by decide)
theorem spec:gU E f168 aE (aSA (.pair sB (.pair (sI .u64) (sN .i64))) (false,[],0)) (pFn 169) sp:=fun a u h =>
 (start a.1 a.2.1 a.2.2.1 a.2.2.2).trans (L false 0 3 (t4 a.1 a.2.1 a.2.2.1 a.2.2.2) (by decide) (all h) 3 0 (by decide))
def aJ:dO:=orc2 (aSA (.pair sB (.pair (sI .u64) (sN .i64))) (false,[],0)) (pFn 169) sp
theorem ok:OK 168 aJ:=(fA E aE (aA Su.ok aD) func168).mV rfl spec
end SFirstG4
namespace Ss
def E:=mE [(168,SFirstG4.aJ)] 5 [] [] []
def aE:=bd f121
theorem aX:Nk E aE:=nk
theorem start(a:gB)(b:gB)(c:gB)(d:gB):aH E f121 aE [D.rows 3 4 fun i=>[sc (bool (t4 a b c d i).fst),ints u64 (t4 a b c d i).snd.fst,sc (int i64 (t4 a b c d i).snd.snd)]]=letI G:=t4 a b c d 3;letI F:=t4 a b c d 2;letI K:=(F.fst,F.snd.fst,F.snd.snd);letI C:=t4 a b c d 1;letI I:=(C.fst,C.snd.fst,C.snd.snd);letI B:=t4 a b c d 0;letI H:=(B.fst,B.snd.fst,B.snd.snd);letI A:=SFirstG4.Hu (H,I,K,G.fst,G.snd.fst,G.snd.snd);aO (aP H/\aP I/\aP K/\aP (G.fst,G.snd.fst,G.snd.snd)) (some [D.agg [sc (bool A.fst),ints u64 A.snd.fst,sc (int i64 A.snd.snd)]]):=eJ aX
def sp(a:gB×gB×gB×gB):Prop×List D:=(aP a.1/\aP a.2.1/\aP a.2.2.1/\aP a.2.2.2,[.agg [.sc (.bool (SFirstG4.Hu a).1),.ints .u64 (SFirstG4.Hu a).2.1,.sc (.int .i64 (SFirstG4.Hu a).2.2)]])
theorem spec:jD E f121 aE (aSA (.pair sB (.pair (sI .u64) (sN .i64))) (false,[],0)) sp:=fun a h =>
 (start a.1 a.2.1 a.2.2.1 a.2.2.2).trans (gP h)
def aJ:dO:=orc1 (aSA (.pair sB (.pair (sI .u64) (sN .i64))) (false,[],0)) sp
theorem ok:OK 121 aJ:=(fA E aE (aA SFirstG4.ok aD) func121).pU rfl spec
end Ss
namespace SMul
def E:Env:={ ({ base with C:=callsOf [(117,xZ.aJ),(155,eF.aJ),(122,Sq.aJ),(121,Ss.aJ),(118,Ae.aJ)],roll:=tlook [(6,3),(9,3)] })with nt:=69,own:=[20,48,66],keep:=fun k=>(tlook [(9,[2,4,6,9,11,29,30,31,39,40,41]),(6,[2,4,6,9,29,30,31])] k).getD [],cut:=tlook [(17,[2,6,1000009])] }
def aE:=bd f114
theorem start a b d e f g h i j k l m c:aH E f114 aE [D.agg [sc (bool a),ints u64 b,sc (int i64 d),sc (bool e),ints u64 f,sc (int i64 g)],D.agg [sc (bool h),ints u64 i,sc (int i64 j),sc (bool k),ints u64 l,sc (int i64 m)],D.s (sc (int i64 c))]=aO (eQ (a,b,d,e,f,g)/\eQ (h,i,j,k,l,m)) (aC (if 1<=c/\c<=70000 then(0:Int)else(1:Int)) fun n=>aB (n !=0) (some [D.agg [sc (bool false),sc (slice none 0 0),sc (int i64 0),sc (bool false),sc (slice none 0 0),sc (int i64 0)],D.s (sc (int i64 n))]) (aO (aP (a,b,d)/\aP (h,i,j)) (aC (isNeg (bif eF.lM (dv (a,b,d)) (dv (h,i,j))then eF.gF (dv (a,b,d)) (dv (h,i,j))else((0:Int),(0:Int))).fst) fun o=>aC (M6.dg (bif eF.lM (dv (a,b,d)) (dv (h,i,j))then eF.gF (dv (a,b,d)) (dv (h,i,j))else((0:Int),(0:Int))).fst.natAbs) fun p=>aC (bif eF.lM (dv (a,b,d)) (dv (h,i,j))then eF.gF (dv (a,b,d)) (dv (h,i,j))else((0:Int),(0:Int))).snd fun q=>aC (bif eF.lM (dv (a,b,d)) (dv (h,i,j))then(0:Int)else(5:Int)) fun r=>aB (r !=0) (some [D.agg [sc (bool false),sc (slice none 0 0),sc (int i64 0),sc (bool false),sc (slice none 0 0),sc (int i64 0)],D.s (sc (int i64 r))]) (aO (aP (a,b,d)/\aP (k,l,m)) (aC (isNeg (bif eF.lM (dv (a,b,d)) (dv (k,l,m))then eF.gF (dv (a,b,d)) (dv (k,l,m))else((0:Int),(0:Int))).fst) fun s=>aC (M6.dg (bif eF.lM (dv (a,b,d)) (dv (k,l,m))then eF.gF (dv (a,b,d)) (dv (k,l,m))else((0:Int),(0:Int))).fst.natAbs) fun t=>aC (bif eF.lM (dv (a,b,d)) (dv (k,l,m))then eF.gF (dv (a,b,d)) (dv (k,l,m))else((0:Int),(0:Int))).snd fun u=>aC (bif eF.lM (dv (a,b,d)) (dv (k,l,m))then(0:Int)else(5:Int)) fun v=>aB (v !=0) (some [D.agg [sc (bool false),sc (slice none 0 0),sc (int i64 0),sc (bool false),sc (slice none 0 0),sc (int i64 0)],D.s (sc (int i64 v))]) (aO (aP (e,f,g)/\aP (h,i,j)) (aC (isNeg (bif eF.lM (dv (e,f,g)) (dv (h,i,j))then eF.gF (dv (e,f,g)) (dv (h,i,j))else((0:Int),(0:Int))).fst) fun w=>aC (M6.dg (bif eF.lM (dv (e,f,g)) (dv (h,i,j))then eF.gF (dv (e,f,g)) (dv (h,i,j))else((0:Int),(0:Int))).fst.natAbs) fun x=>aC (bif eF.lM (dv (e,f,g)) (dv (h,i,j))then eF.gF (dv (e,f,g)) (dv (h,i,j))else((0:Int),(0:Int))).snd fun y=>aC (bif eF.lM (dv (e,f,g)) (dv (h,i,j))then(0:Int)else(5:Int)) fun z=>aB (z !=0) (some [D.agg [sc (bool false),sc (slice none 0 0),sc (int i64 0),sc (bool false),sc (slice none 0 0),sc (int i64 0)],D.s (sc (int i64 z))]) (aO (aP (e,f,g)/\aP (k,l,m)) (aC (isNeg (bif eF.lM (dv (e,f,g)) (dv (k,l,m))then eF.gF (dv (e,f,g)) (dv (k,l,m))else((0:Int),(0:Int))).fst) fun aa=>aC (M6.dg (bif eF.lM (dv (e,f,g)) (dv (k,l,m))then eF.gF (dv (e,f,g)) (dv (k,l,m))else((0:Int),(0:Int))).fst.natAbs) fun ab=>aC (bif eF.lM (dv (e,f,g)) (dv (k,l,m))then eF.gF (dv (e,f,g)) (dv (k,l,m))else((0:Int),(0:Int))).snd fun ac=>aC (bif eF.lM (dv (e,f,g)) (dv (k,l,m))then(0:Int)else(5:Int)) fun ad=>aB (ad !=0) (some [D.agg [sc (bool false),sc (slice none 0 0),sc (int i64 0),sc (bool false),sc (slice none 0 0),sc (int i64 0)],D.s (sc (int i64 ad))]) (aO (aP (o,p,q)/\aP (s,t,u)/\aP (w,x,y)/\aP (aa,ab,ac)) (aC (SFirstL4.Hu ((o,p,q),(s,t,u),(w,x,y),aa,ab,ac)).fst fun ae=>aC (SFirstL4.Hu ((o,p,q),(s,t,u),(w,x,y),aa,ab,ac)).snd.fst fun af=>aC (SFirstL4.Hu ((o,p,q),(s,t,u),(w,x,y),aa,ab,ac)).snd.snd fun ag=>aO (aP (o,p,q)/\aP (s,t,u)/\aP (w,x,y)/\aP (aa,ab,ac)) (aC (SFirstG4.Hu ((o,p,q),(s,t,u),(w,x,y),aa,ab,ac)).fst fun ah=>aC (SFirstG4.Hu ((o,p,q),(s,t,u),(w,x,y),aa,ab,ac)).snd.fst fun ai=>aC (SFirstG4.Hu ((o,p,q),(s,t,u),(w,x,y),aa,ab,ac)).snd.snd fun aj=>aO (aP (ae,af,ag)/\aP (ah,ai,aj)/\(1<=c/\c<=70000)/\wZ false (dv (ae,af,ag)) c=true/\wZ true (dv (ah,ai,aj)) c=true) (aC (isNeg (M.shD false (dv (ae,af,ag)) c).fst) fun ak=>aC (M6.dg (M.shD false (dv (ae,af,ag)) c).fst.natAbs) fun al=>aC (M.shD false (dv (ae,af,ag)) c).snd fun am=>aC (isNeg (M.shD true (dv (ah,ai,aj)) c).fst) fun an=>aC (M6.dg (M.shD true (dv (ah,ai,aj)) c).fst.natAbs) fun ao=>aC (M.shD true (dv (ah,ai,aj)) c).snd fun ap=>some [D.agg [sc (bool ak),ints u64 al,sc (int i64 am),sc (bool an),ints u64 ao,sc (int i64 ap)],D.s (sc (int i64 0))]))))))))))))):=by kernel_rfl
def zF(a b:(Int×Int)×(Int×Int)):Int×Int:=Km (Km (Km (eF.gF a.1 b.1) (eF.gF a.1 b.2)) (eF.gF a.2 b.1)) (eF.gF a.2 b.2)
def zG(a b:(Int×Int)×(Int×Int)):Int×Int:=Li (Li (Li (eF.gF a.1 b.1) (eF.gF a.1 b.2)) (eF.gF a.2 b.1)) (eF.gF a.2 b.2)
def aPF(a b:(Int×Int)×(Int×Int)):Prop:=eF.lM a.1 b.1=true/\eF.lM a.1 b.2=true/\eF.lM a.2 b.1=true/\eF.lM a.2 b.2=true
abbrev eS(s:wW):(Int×Int)×(Int×Int):=(dv (gW s),dv (gX s))
def sp(s t:wW)(p:Int):Prop×List D:=((eQ s/\eQ t)/\(1<=p/\p<=70000)/\aPF (eS s) (eS t)/\wZ false (zF (eS s) (eS t)) p=true/\wZ true (zG (eS s) (eS t)) p=true,[uV (shD false (zF (eS s) (eS t)) p) (shD true (zG (eS s) (eS t)) p),.s (.sc (.int .i64 0))])
theorem Im{p q:Int×Int}(h:eF.lM p q=true):jJ (eF.gF p q):=by
 unfold eF.lM at h;rw[bUX]at h;exact gJ h.2 (of_decide_eq_true h.1)
theorem bPB(a:gB×gB×gB×gB):dv (SFirstL4.Hu a)=Km (Km (Km (dv a.1) (dv a.2.1)) (dv a.2.2.1)) (dv a.2.2.2):=by
 have st:∀x y:gB,dv (bif decide (eB (dv x) (dv y)<0)then x else y)=Km (dv y) (dv x):=by
  intro x y;unfold Km;cases decide (eB (dv x) (dv y)<0) <;> rfl
 show dv (bif decide (eB (dv a.2.2.2) (dv (bif decide (eB (dv a.2.2.1) (dv (bif decide (eB (dv a.2.1) (dv a.1)<0)then a.2.1 else a.1))<0)then a.2.2.1 else(bif decide (eB (dv a.2.1) (dv a.1)<0)then a.2.1 else a.1)))<0)then a.2.2.2 else(bif decide (eB (dv a.2.2.1) (dv (bif decide (eB (dv a.2.1) (dv a.1)<0)then a.2.1 else a.1))<0)then a.2.2.1 else(bif decide (eB (dv a.2.1) (dv a.1)<0)then a.2.1 else a.1)))=_;rw[st,st,st]
theorem bTP(a:gB×gB×gB×gB):dv (SFirstG4.Hu a)=Li (Li (Li (dv a.1) (dv a.2.1)) (dv a.2.2.1)) (dv a.2.2.2):=by
 have st:∀x y:gB,dv (bif decide (0<eB (dv x) (dv y))then x else y)=Li (dv y) (dv x):=by
  intro x y;unfold Li;cases decide (0<eB (dv x) (dv y)) <;> rfl
 show dv (bif decide (0<eB (dv a.2.2.2) (dv (bif decide (0<eB (dv a.2.2.1) (dv (bif decide (0<eB (dv a.2.1) (dv a.1))then a.2.1 else a.1)))then a.2.2.1 else(bif decide (0<eB (dv a.2.1) (dv a.1))then a.2.1 else a.1))))then a.2.2.2 else(bif decide (0<eB (dv a.2.2.1) (dv (bif decide (0<eB (dv a.2.1) (dv a.1))then a.2.1 else a.1)))then a.2.2.1 else(bif decide (0<eB (dv a.2.1) (dv a.1))then a.2.1 else a.1)))=_;rw[st,st,st]
theorem spec:oP E f114 aE yH yH (pN .i64) sp:=by
 rintro s t p ⟨⟨h1,h2⟩,hp,⟨m1,m2,m3,m4⟩,i1,i2⟩;have hL:aP (s.1,s.2.1,s.2.2.1):=h1.1;have hH:aP (s.2.2.2.1,s.2.2.2.2.1,s.2.2.2.2.2):=h1.2.1;have kL:aP (t.1,t.2.1,t.2.2.1):=h2.1;have kH:aP (t.2.2.2.1,t.2.2.2.2.1,t.2.2.2.2.2):=h2.2.1;refine(start s.1 s.2.1 s.2.2.1 s.2.2.2.1 s.2.2.2.2.1 s.2.2.2.2.2 t.1 t.2.1 t.2.2.1 t.2.2.2.1 t.2.2.2.2.1 t.2.2.2.2.2 p).trans ?_;unfold sp zF zG eS at *;dsimp only at *;unfold gW gX at *;generalize ha:dv (s.1,s.2.1,s.2.2.1)=a at *;generalize hb:dv (s.2.2.2.1,s.2.2.2.2.1,s.2.2.2.2.2)=b at *;generalize hc:dv (t.1,t.2.1,t.2.2.1)=c at *;generalize hd:dv (t.2.2.2.1,t.2.2.2.2.1,t.2.2.2.2.2)=d at *;have d1:=dJ (Im m1);have d2:=dJ (Im m2);have d3:=dJ (Im m3);have d4:=dJ (Im m4);have e1:=dT (eF.gF a c);have e2:=dT (eF.gF a d);have e3:=dT (eF.gF b c);have e4:=dT (eF.gF b d);rw[gP ⟨h1,h2⟩,aG,if_pos hp,gE rfl,gP ⟨hL,kL⟩];simp only[aG,m1,m2,m3,m4,cond_true];rw[gE rfl,gP ⟨hL,kH⟩,gE rfl,gP ⟨hH,kL⟩,gE rfl,gP ⟨hH,kH⟩,gE rfl];obtain⟨Q,hQ⟩:∃Q:gB×gB×gB×gB,Q=((isNeg (eF.gF a c).1,M6.dg (eF.gF a c).1.natAbs,(eF.gF a c).2),(isNeg (eF.gF a d).1,M6.dg (eF.gF a d).1.natAbs,(eF.gF a d).2),(isNeg (eF.gF b c).1,M6.dg (eF.gF b c).1.natAbs,(eF.gF b c).2),(isNeg (eF.gF b d).1,M6.dg (eF.gF b d).1.natAbs,(eF.gF b d).2)):=⟨_,rfl⟩;have dQ:aP Q.1/\aP Q.2.1/\aP Q.2.2.1/\aP Q.2.2.2:=by rw[hQ];exact⟨d1,d2,d3,d4⟩
 have v1:=bPB Q;have v2:=bTP Q;have k1:=SFirstL4.Zr dQ;have k2:=SFirstG4.Zr dQ;rw[show dv Q.1=eF.gF a c by rw[hQ];exact e1,show dv Q.2.1=eF.gF a d by rw[hQ];exact e2,show dv Q.2.2.1=eF.gF b c by rw[hQ];exact e3,show dv Q.2.2.2=eF.gF b d by rw[hQ];exact e4]at v1 v2;rw[gP ⟨d1,d2,d3,d4⟩,gP ⟨d1,d2,d3,d4⟩,<-hQ];rw[<-v1]at i1 ⊢;rw[<-v2]at i2 ⊢;exact gP ⟨k1,k2,hp,i1,i2⟩
def aJ:dO:=orc3 yH yH (pN .i64) sp
theorem fnok:sZ prog E 114 f114 aE:=aFA rH mixed (lY _ rfl (aA xZ.ok (aA eF.ok (aA Sq.ok (aA Ss.ok (aA Ae.ok aD))))) (nR)) func114 rfl rfl rfl
theorem ok:lA prog base.glob 114 aJ:=fnok.yM rfl spec
end SMul
end W
namespace M
open Go AI W
theorem Ra{a b x:Rat}{y:Rat}(h1:a<=x)(h2:x<=b):(a*y<=x*y\/b*y<=x*y)/\(x*y<=a*y\/x*y<=b*y):=by
 by_cases h:0<=y
 ·have m1:=R.aF (show 0<=x-a by grind) h;have m2:=R.aF (show 0<=b-x by grind) h;exact⟨.inl (by grind),.inr (by grind)⟩
 ·have m1:=R.aF (show 0<=x-a by grind) (show 0<=-y by grind);have m2:=R.aF (show 0<=b-x by grind) (show 0<=-y by grind);exact⟨.inr (by grind),.inl (by grind)⟩
theorem aUF{a b:(Int×Int)×(Int×Int)}{x y:Rat}(h1:R.qz a.1<=x)(h2:x<=R.qz a.2)(h3:R.qz b.1<=y)(h4:y<=R.qz b.2):R.qz (SMul.zF a b)<=x*y/\x*y<=R.qz (SMul.zG a b):=by
 obtain⟨l1,l2⟩:=Yn (eF.gF a.1 b.1) (eF.gF a.1 b.2);obtain⟨l3,l4⟩:=Yn (Km (eF.gF a.1 b.1) (eF.gF a.1 b.2)) (eF.gF a.2 b.1);obtain⟨l5,l6⟩:=Yn (Km (Km (eF.gF a.1 b.1) (eF.gF a.1 b.2)) (eF.gF a.2 b.1)) (eF.gF a.2 b.2);obtain⟨g1,g2⟩:=Zd (eF.gF a.1 b.1) (eF.gF a.1 b.2);obtain⟨g3,g4⟩:=Zd (Li (eF.gF a.1 b.1) (eF.gF a.1 b.2)) (eF.gF a.2 b.1);obtain⟨g5,g6⟩:=Zd (Li (Li (eF.gF a.1 b.1) (eF.gF a.1 b.2)) (eF.gF a.2 b.1)) (eF.gF a.2 b.2);change R.qz (SMul.zF a b)<=_ at l5 l6;change _<=R.qz (SMul.zG a b)at g5 g6;rw[Dj]at l1 l2 l4 l6 g1 g2 g4 g6;generalize R.qz (SMul.zF a b)=L at *;generalize R.qz (SMul.zG a b)=H at *;generalize R.qz (Km (Km (eF.gF a.1 b.1) (eF.gF a.1 b.2)) (eF.gF a.2 b.1))=L2 at *;generalize R.qz (Km (eF.gF a.1 b.1) (eF.gF a.1 b.2))=L1 at *;generalize R.qz (Li (Li (eF.gF a.1 b.1) (eF.gF a.1 b.2)) (eF.gF a.2 b.1))=G2 at *;generalize R.qz (Li (eF.gF a.1 b.1) (eF.gF a.1 b.2))=G1 at *;generalize R.qz a.1=a1 at *;generalize R.qz a.2=a2 at *;generalize R.qz b.1=b1 at *;generalize R.qz b.2=b2 at *;obtain⟨m1,m2⟩:=Ra (y:=y) h1 h2;obtain⟨p1,p2⟩:=Ra (y:=a1) h3 h4;obtain⟨q1,q2⟩:=Ra (y:=a2) h3 h4;constructor
 ·rcases m1 with m |m
  ·rcases p1 with p |p <;> grind
  ·rcases q1 with q |q <;> grind
 ·rcases m2 with m |m
  ·rcases p2 with p |p <;> grind
  ·rcases q2 with q |q <;> grind
end M
namespace W
open Go AI M
namespace Sz
def E:=mE [(50,iX.aJ)] 31 [] [] []
def aE:=bd f199
theorem aX:Nk E aE:=nk
theorem start a b c:aH E f199 aE [D.s (ints u64 a),D.s (ints u64 b),D.s (sc (int i64 c))]=letI C:=i64.wrap ((0:Int)-c);letI B:=bif gT (wv (false,b)) C then aN (wv (false,b)) C else((0:Int),(0:Int));letI A:=bif gT (wv (false,a)) C then aN (wv (false,a)) C else((0:Int),(0:Int));aO (gI (false,a)/\(-9223372036854775808:Int)<=i64.wrap ((0:Int)-c)/\i64.wrap ((0:Int)-c)<9223372036854775808) (aC (isNeg A.fst) fun d=>aC (M6.dg A.fst.natAbs) fun e=>aC A.snd fun f=>aO (gI (false,b)/\(-9223372036854775808:Int)<=i64.wrap ((0:Int)-c)/\i64.wrap ((0:Int)-c)<9223372036854775808) (aC (isNeg B.fst) fun g=>aC (M6.dg B.fst.natAbs) fun h=>aC B.snd fun i=>some [D.agg [sc (bool d),ints u64 e,sc (int i64 f),sc (bool g),ints u64 h,sc (int i64 i)],D.s (sc (int i64 0))])):=eJ aX
def sp(a b:List Int)(w:Int):Prop×List D:=(gI (false,a)/\gI (false,b)/\(-100000<=w/\w<=100000)/\gT (wv (false,a)) (-w)=true/\gT (wv (false,b)) (-w)=true,[uV (aN (wv (false,a)) (-w)) (aN (wv (false,b)) (-w)),.s (.sc (.int .i64 0))])
theorem spec:oP E f199 aE (pI .u64) (pI .u64) (pN .i64) sp:=by
 rintro a b w ⟨ha,hb,hw,i1,i2⟩;have e:i64.wrap (0-w)=-w:=by rw[wrap_i64];omega
 refine(start a b w).trans ?_;rw[e,i1,i2,gP ⟨ha,by omega,by omega⟩];simp only[aG,cond_true];rw[gP ⟨hb,by omega,by omega⟩];rfl
def aJ:dO:=orc3 (pI .u64) (pI .u64) (pN .i64) sp
theorem ok:OK 199 aJ:=(fA E aE (aA iX.ok aD) func199).yM rfl spec
end Sz
namespace aNB
def E:=mE [(100,uE.aJ),(95,oA.aJ),(199,Sz.aJ)] 26 [23] [] []
def aE:=bd f153
theorem aX:Nk E aE:=nk
theorem start a b c:aH E f153 aE [D.s (ints u64 a),D.s (sc (int i64 b)),D.s (sc (int i64 c))]=letI F:=int i64 0;letI C:=M6.val a+M6.val (M6.dg 1);letI A:=aN (wv (false,a)) (-c);aB (b !=0) (some [D.agg [sc (bool false),sc (slice none 0 0),sc F,sc (bool false),sc (slice none 0 0),sc F],D.s (sc (int i64 b))]) (aO ((0:Int)<=(1:Int)/\(1:Int)<(18446744073709551616:Int)) (aO (M6.cR a/\M6.cR (M6.dg 1)/\a.length<=8192/\(M6.dg 1).length<=8192) (aC (bif cP.mL C then M6.dg C else []) fun d=>letI B:=aN (wv (false,d)) (-c);aO (gI (false,a)/\gI (false,d)/\((-100000:Int)<=c/\c<=100000)/\gT (wv (false,a)) (-c)=true/\gT (wv (false,d)) (-c)=true) (aC (isNeg A.fst) fun e=>aC (M6.dg A.fst.natAbs) fun f=>aC A.snd fun g=>aC (isNeg B.fst) fun h=>aC (M6.dg B.fst.natAbs) fun i=>aC B.snd fun j=>some [D.agg [sc (bool e),ints u64 f,sc (int i64 g),sc (bool h),ints u64 i,sc (int i64 j)],D.s (sc F)])))):=eJ aX
def sp(a:List Int)(e p:Int):Prop×List D:=(e=0/\M6.cR a/\bl (M6.val a)<=100000/\1<=p/\p<=70000,[uV (aN (M6.val a:Int) (-p)) (aN ((M6.val a:Int)+1) (-p)),.s (.sc (.int .i64 0))])
theorem spec:oP E f153 aE (pI .u64) (pN .i64) (pN .i64) sp:=by
 rintro a e p ⟨rfl,ha,hb,p0,p1⟩;have hv:M6.val a<2^100000:=dA.1 hb;have bAG:M6.val a+1<2^100001:=by rw[bZQ];omega
 have ok:=dV.aSC bAG (by omega);have la:a.length<=8192:=by
  have:=dV.lF hv (by omega);rwa [M6.Iu ha]at this
 have l1:(M6.dg 1).length<=8192:=dV.lF (k:=1) (by decide) (by omega);have e1:wv (false,a)=(M6.val a:Int):=rfl;have e2:wv (false,M6.dg (M6.val a+1))=(M6.val a:Int)+1:=by
  show((M6.val (M6.dg (M6.val a+1)):Nat):Int)=_;rw[M6.bN];omega
 have b1:bl (M6.val a+1)<=100001:=dA.2 bAG;have i1:gT (M6.val a:Int) (-p)=true:=gO (by omega) (by rw[cAH];omega);have i2:gT ((M6.val a:Int)+1) (-p)=true:=gO (by omega) (by rw[show((M6.val a:Int)+1).natAbs=M6.val a+1 by omega];omega);refine(start a 0 p).trans ?_;rw[gE rfl,gP ⟨by decide,by decide⟩,gP ⟨ha,M6.aY _,la,l1⟩,M6.bN,ok,cond_true,aG];refine(gP ⟨⟨ha,fun h=>(by cases h),la⟩,⟨M6.aY _,fun h=>(by cases h),dV.lF bAG (by omega)⟩,by omega,by rw[e1];exact i1,by rw[e2];exact i2⟩).trans ?_;rw[e1,e2];rfl
def aJ:dO:=orc3 (pI .u64) (pN .i64) (pN .i64) sp
theorem ok:OK 153 aJ:=(fA E aE (aA uE.ok (aA oA.ok (aA Sz.ok aD))) func153).yM rfl spec
end aNB
namespace sW
def E:=mE [(152,rW.aJ),(153,aNB.aJ)] 17 [14] [] []
def aE:=bd f112
theorem aX:Nk E aE:=nk
theorem start a:aH E f112 aE [D.s (sc (int i64 a))]=letI C:=M6.dg (R.pF a.toNat);letI A:=(↑(M6.val C):Int);letI F:=aN A (-a);letI B:=aN (A+(1:Int)) (-a);aO (1<=a/\a<=70000) (aO ((0:Int)=(0:Int)/\M6.cR C/\bl (M6.val C)<=100000/\1<=a/\a<=70000) (aC (isNeg F.fst) fun b=>aC (M6.dg F.fst.natAbs) fun c=>aC F.snd fun d=>aC (isNeg B.fst) fun e=>aC (M6.dg B.fst.natAbs) fun f=>aC B.snd fun g=>some [D.agg [sc (bool b),ints u64 c,sc (int i64 d),sc (bool e),ints u64 f,sc (int i64 g)],D.s (sc (int i64 0))])):=eJ aX
def tP(p:Int):(Int×Int)×(Int×Int):=(aN (R.pF p.toNat:Int) (-p),aN ((R.pF p.toNat:Int)+1) (-p))
def sp(p:Int):Prop×List D:=(1<=p/\p<=70000,[uV (tP p).1 (tP p).2,.s (.sc (.int .i64 0))])
theorem aSB{p:Int}(h:1<=p/\p<=70000):bl (R.pF p.toNat)<=100000:=by
 obtain⟨q,rfl⟩:=bZV (show 0<=p by omega);rw[bYO];have h1:=(R.zD (q:=q) (by omega)).1;obtain⟨_,p2⟩:=R.gL;have P:(0:Rat)<((2^q:Nat):Rat):=by exact_mod_cast bXR (n:=q) (show 0<2 by decide)
 have m:=R.aF (bZY P) (show 0<=4-R.pi by grind);have h2:(R.pF q:Rat)<=((2^(q+2):Nat):Rat):=by
  have:((2^(q+2):Nat):Rat)=((2^q:Nat):Rat)*4:=by rw[bZS];push_cast;norm_cast
  grind
 have h3:R.pF q<=2^(q+2):=by exact_mod_cast h2
 have h4:R.pF q<2^(q+3):=by
  have:2^(q+3)=2*2^(q+2):=by rw[bZQ];omega
  have:=bXR (n:=q+2) (show 0<2 by decide);omega
 have:=dA.2 h4;omega
theorem spec:jD E f112 aE (pN .i64) sp:=by
 intro p h;refine(start p).trans ((gP h).trans ?_);have b:=aSB h;refine(gP ⟨rfl,M6.aY _,by rw[M6.bN];exact b,h.1,h.2⟩).trans ?_;rw[M6.bN];rfl
def aJ:dO:=orc1 (pN .i64) sp
theorem ok:OK 112 aJ:=(fA E aE (aA rW.ok (aA aNB.ok aD)) func112).pU rfl spec
end sW
namespace iB
def E:=mE [(112,sW.aJ),(113,Ct.aJ),(114,SMul.aJ),(115,mI.aJ),(116,cC.aJ)] 48 [] [] []
def aE:=bd f64
theorem aX:Nk E aE:=nk
theorem start a c d b:aH E f64 aE [D.agg [sc (bool a),ints u64 c,sc (int i64 d)],D.s (sc (int i64 b))]=letI P:=sW.tP b;letI F:=i64.wrap (b+8);letI A:=SMul.eS ((a,c,d).fst,(a,c,d).snd.fst,(a,c,d).snd.snd,(a,c,d).fst,(a,c,d).snd.fst,(a,c,d).snd.snd);aO (1<=b/\b<=70000) (aC (isNeg P.fst.fst) fun e=>aC (M6.dg P.fst.fst.natAbs) fun f=>aC P.fst.snd fun g=>aC (isNeg P.snd.fst) fun h=>aC (M6.dg P.snd.fst.natAbs) fun i=>aC P.snd.snd fun j=>letI Q:=(e,f,g,h,i,j);letI B:=SMul.eS Q;letI O:=M.shD true (SMul.zG A B) F;letI I:=M.shD false (SMul.zF A B) F;aO (aP (a,c,d)) (aO ((eQ (a,c,d,a,c,d)/\eQ Q)/\(1<=i64.wrap (b+8)/\i64.wrap (b+8)<=70000)/\SMul.aPF (dv (gW ((a,c,d).fst,(a,c,d).snd.fst,(a,c,d).snd.snd,(a,c,d).fst,(a,c,d).snd.fst,(a,c,d).snd.snd)),dv (gX ((a,c,d).fst,(a,c,d).snd.fst,(a,c,d).snd.snd,(a,c,d).fst,(a,c,d).snd.fst,(a,c,d).snd.snd))) (dv (gW Q),dv (gX Q))/\wZ false (SMul.zF A B) F=true/\wZ true (SMul.zG A B) F=true) (aC (isNeg I.fst) fun k=>aC (M6.dg I.fst.natAbs) fun l=>aC I.snd fun m=>aC (isNeg O.fst) fun n=>aC (M6.dg O.fst.natAbs) fun o=>aC O.snd fun p=>letI C:=(k,l,m,n,o,p);letI N:=fH.Jt (dv (gX C)) (b+2);letI K:=fH.Js (dv (gW C)) (b+2);letI H:=bC.rN (dv (cC.zU C)) (b+2);letI G:=bC.qN (dv (cC.tF C)) (b+2);aO (mI.Tw C b) (aC (isNeg K.fst) fun q=>aC (M6.dg K.fst.natAbs) fun r=>aC K.snd fun s=>aC (isNeg N.fst) fun t=>aC (M6.dg N.fst.natAbs) fun u=>aC N.snd fun v=>aO (cC.Zp C b) (aC (isNeg H.fst) fun w=>aC (M6.dg H.fst.natAbs) fun x=>aC H.snd fun y=>aC (isNeg G.fst) fun z=>aC (M6.dg G.fst.natAbs) fun aa=>aC G.snd fun ab=>some [D.agg [sc (bool q),ints u64 r,sc (int i64 s),sc (bool t),ints u64 u,sc (int i64 v)],D.agg [sc (bool w),ints u64 x,sc (int i64 y),sc (bool z),ints u64 aa,sc (int i64 ab)]]))))):=eJ aX
def Cr(r:Int×Int)(q:Int):(Int×Int)×(Int×Int):=(shD false (SMul.zF (r,r) (sW.tP q)) (q+8),shD true (SMul.zG (r,r) (sW.tP q)) (q+8))
def bDG(r:Int×Int)(q:Int):wW:=mM (Cr r q).1 (Cr r q).2
def aRA(r:Int×Int)(q:Int):Prop:=eQ (mM (sW.tP q).1 (sW.tP q).2)/\SMul.aPF (r,r) (sW.tP q)/\wZ false (SMul.zF (r,r) (sW.tP q)) (q+8)=true/\wZ true (SMul.zG (r,r) (sW.tP q)) (q+8)=true/\mI.Tw (bDG r q) q/\cC.Zp (bDG r q) q
def sp(x:gB)(q:Int):Prop×List D:=(aP x/\(1<=q/\q<=66500)/\aRA (dv x) q,[uV (gS (Cr (dv x) q).1 (Cr (dv x) q).2 (q+2)).1 (gS (Cr (dv x) q).1 (Cr (dv x) q).2 (q+2)).2,uV (gC (Cr (dv x) q).1 (Cr (dv x) q).2 (q+2)).1 (gC (Cr (dv x) q).1 (Cr (dv x) q).2 (q+2)).2])
theorem fold(a b:Int×Int):(isNeg a.1,M6.dg a.1.natAbs,a.2,isNeg b.1,M6.dg b.1.natAbs,b.2)=mM a b:=rfl
theorem spec:gU E f64 aE iW (pN .i64) sp:=by
 rintro x q ⟨hx,hq,h1,h2,h3,h4,h5,h6⟩;obtain⟨a,b,c⟩:=x;have w:i64.wrap (q+8)=q+8:=wrap_i64;have eP:SMul.eS (mM (sW.tP q).1 (sW.tP q).2)=sW.tP q:=by
  show(dv (gW (mM _ _)),dv (gX (mM _ _)))=_;rw[oL,oM]
 have sx:eQ (a,b,c,a,b,c):=⟨hx,hx,Pp _⟩;refine(start a b c q).trans ((gP ⟨hq.1,by omega⟩).trans ?_);rw[aG,aG,aG,aG,aG,aG,fold,w,eP];refine(gP hx).trans ((gP ⟨⟨sx,h1⟩,⟨by omega,by omega⟩,by rw[oL,oM];exact h2,h3,h4⟩).trans ?_);rw[aG,aG,aG,aG,aG,aG,fold];have e1:dv (gW (bDG (dv (a,b,c)) q))=(Cr (dv (a,b,c)) q).1:=oL _ _;have e2:dv (gX (bDG (dv (a,b,c)) q))=(Cr (dv (a,b,c)) q).2:=oM _ _;have f:mM (M.shD false (SMul.zF (SMul.eS (a,b,c,a,b,c)) (sW.tP q)) (q+8)) (M.shD true (SMul.zG (SMul.eS (a,b,c,a,b,c)) (sW.tP q)) (q+8))=bDG (dv (a,b,c)) q:=rfl;change aO (mI.Tw (mM (M.shD false (SMul.zF (SMul.eS (a,b,c,a,b,c)) (sW.tP q)) (q+8)) (M.shD true (SMul.zG (SMul.eS (a,b,c,a,b,c)) (sW.tP q)) (q+8))) q) _=_;rw[f,gP h5,aG,aG,aG,aG,aG,aG,gP h6,e1,e2];rfl
def aJ:dO:=orc2 iW (pN .i64) sp
theorem ok:OK 64 aJ:=(fA E aE (aA sW.ok (aA Ct.ok (aA SMul.ok (aA mI.ok (aA cC.ok aD))))) func64).mV rfl spec
end iB
end W
namespace M
open Go AI W
structure bDH(r:Int×Int):Prop where
 uZ:jJ r
 b:bl r.1.natAbs<=1100
 e:-1100<=r.2/\r.2<=0
 q:R.ab (R.qz r)<=1/4
 g:R.pz (-1075)<=R.ab (R.qz r)
theorem aOU{q:Int}(hq:1<=q/\q<=66500):(jJ (sW.tP q).1/\jJ (sW.tP q).2)/\(bl (sW.tP q).1.1.natAbs<=100001/\bl (sW.tP q).2.1.natAbs<=100001)/\(-70000<=(sW.tP q).1.2/\(sW.tP q).1.2<=200000)/\(-70000<=(sW.tP q).2.2/\(sW.tP q).2.2<=200000)/\R.qz (sW.tP q).1<=R.pi/\R.pi<=R.qz (sW.tP q).2/\R.qz (sW.tP q).2-R.qz (sW.tP q).1=R.pz (-q):=by
 have hb:=sW.aSB (p:=q) ⟨hq.1,by omega⟩;have aKN:bl ((R.pF q.toNat:Int)+1).natAbs<=100001:=by
  have h1:=dA.1 hb;refine dA.2 ?_;rw[show((R.pF q.toNat:Int)+1).natAbs=R.pF q.toNat+1 by omega,bZQ];omega
 have vU:bl ((R.pF q.toNat:Int)).natAbs<=100001:=by rw[cAH];omega
 have i1:gT (R.pF q.toNat:Int) (-q)=true:=gO (by omega) (by omega);have i2:gT ((R.pF q.toNat:Int)+1) (-q)=true:=gO (by omega) (by omega);have ex:∀z:Int,bl z.natAbs<=100001->-70000<=(aN z (-q)).2/\(aN z (-q)).2<=200000:=by
  intro z hz
  by_cases h0:z=0
  ·rw[h0,fC];decide
  ·have h1:=qT (e:=-q) h0;have h2:=(lE (e:=-q) h0).2;have h3:=Ji (n:=z.natAbs) (by omega);have h4:tz z.natAbs<=100001:=by
    rcases Nat.lt_or_ge 100001 (tz z.natAbs)with h |h
    ·have:=dA.1 hz;have h5:2^100001<=2^tz z.natAbs:=gN;omega
    ·exact h
   omega
 have fl:=R.zD (q:=q.toNat) (by omega);have P:=R.Yg q;have e:R.pz q=((2^q.toNat:Nat):Rat):=by
  have:=R.lT q.toNat;rwa [show((q.toNat:Nat):Int)=q by omega]at this
 rw[<-e]at fl;have z0:=R.dC (-q);have m1:=R.aF (bZY z0) (show 0<=R.pz q*R.pi-(R.pF q.toNat:Rat) by grind);have m2:=R.aF (bZY z0) (show 0<=(R.pF q.toNat:Rat)+1-R.pz q*R.pi by grind);have k:R.pz (-q)*(R.pz q*R.pi)=R.pi:=by rw[<-cFV,Rat.mul_comm (R.pz (-q)),P];grind
 have q1:R.qz (sW.tP q).1=(R.pF q.toNat:Rat)*R.pz (-q):=by
  show R.qz (aN _ _)=_;rw[oH,cFX]
 have q2:R.qz (sW.tP q).2=((R.pF q.toNat:Rat)+1)*R.pz (-q):=by
  show R.qz (aN _ _)=_;rw[oH,cHP,cFX,show((1:Int):Rat)=1 by norm_cast]
 rw[q1,q2];exact⟨⟨gJ i1 (by omega),gJ i2 (by omega)⟩,⟨bVN (vB _ _) vU,bVN (vB _ _) aKN⟩,ex _ vU,ex _ aKN,by grind,by grind,by grind⟩
theorem aJE{a b:Int×Int}{m n:Nat}(ha:bl a.1.natAbs<=m)(hb:bl b.1.natAbs<=n)(h:m+n<=524288)(e1:-1048576<=a.2+b.2)(e2:a.2+b.2<=500000):eF.lM a b=true/\jJ (eF.gF a b):=by
 have b0:=bVN (Pt a.1.natAbs b.1.natAbs) (Nat.add_le_add ha hb);rw[<-Int.natAbs_mul]at b0;have i:gT (a.1*b.1) (a.2+b.2)=true:=gO (by omega) (by omega);refine⟨?_,gJ i (by omega)⟩;unfold eF.lM fit;rw[i,decide_eq_true (by omega)];rfl
theorem aWU{r:Int×Int}{p:Int}(h:bDH r)(hp:1<=p/\p<=66000):iB.aRA r (p+16)/\bKH (iB.Cr r (p+16)).1 (iB.Cr r (p+16)).2 (p-6) (p+18) (R.qz r*R.pi):=by
 obtain⟨aEN,hb,he,hq,hg⟩:=h;obtain⟨⟨u1,u2⟩,⟨b1,b2⟩,x1,x2,l1,l2,w⟩:=aOU (q:=p+16) (by omega);obtain⟨o1,n1⟩:=aJE hb b1 (by omega) (by omega) (by omega);obtain⟨o2,n2⟩:=aJE hb b2 (by omega) (by omega) (by omega);have sP:eQ (mM (sW.tP (p+16)).1 (sW.tP (p+16)).2):=xF u1 u2 (kV.2 (by grind));have mo:SMul.aPF (r,r) (sW.tP (p+16)):=⟨o1,o2,o1,o2⟩;obtain⟨g1,g2⟩:=aUF (a:=(r,r)) (b:=sW.tP (p+16)) (x:=R.qz r) (y:=R.pi) cAZ cAZ l1 l2;have pL:jJ (SMul.zF (r,r) (sW.tP (p+16)))/\(R.qz (SMul.zF (r,r) (sW.tP (p+16)))=R.qz r*R.qz (sW.tP (p+16)).1\/R.qz (SMul.zF (r,r) (sW.tP (p+16)))=R.qz r*R.qz (sW.tP (p+16)).2):=by
  unfold SMul.zF;rw[<-Dj,<-Dj];have ls:∀{s t:Int×Int} {A B:Rat},(jJ s/\(R.qz s=A\/R.qz s=B))->(jJ t/\(R.qz t=A\/R.qz t=B))->jJ (Km s t)/\(R.qz (Km s t)=A\/R.qz (Km s t)=B):=by
   intro s t A B hs ht;rcases aUG s t with h |h <;> rw[h] <;> assumption
  exact ls (ls (ls ⟨n1,.inl rfl⟩ ⟨n2,.inr rfl⟩) ⟨n1,.inl rfl⟩) ⟨n2,.inr rfl⟩
 have pH:jJ (SMul.zG (r,r) (sW.tP (p+16)))/\(R.qz (SMul.zG (r,r) (sW.tP (p+16)))=R.qz r*R.qz (sW.tP (p+16)).1\/R.qz (SMul.zG (r,r) (sW.tP (p+16)))=R.qz r*R.qz (sW.tP (p+16)).2):=by
  unfold SMul.zG;rw[<-Dj,<-Dj];have ls:∀{s t:Int×Int} {A B:Rat},(jJ s/\(R.qz s=A\/R.qz s=B))->(jJ t/\(R.qz t=A\/R.qz t=B))->jJ (Li s t)/\(R.qz (Li s t)=A\/R.qz (Li s t)=B):=by
   intro s t A B hs ht;rcases aVW s t with h |h <;> rw[h] <;> assumption
  exact ls (ls (ls ⟨n1,.inl rfl⟩ ⟨n2,.inr rfl⟩) ⟨n1,.inl rfl⟩) ⟨n2,.inr rfl⟩
 have z0:=R.dC (-(p+16));have zs:R.pz (-(p+16))<=1/131072:=by
  have:=aTW (p:=p-7) (by omega);rwa [show -(p-7)-23=-(p+16) by omega]at this
 obtain⟨bOR,bOQ⟩:=R.gL;generalize hL:SMul.zF (r,r) (sW.tP (p+16))=L at *;generalize hH:SMul.zG (r,r) (sW.tP (p+16))=H at *;generalize aKR:R.qz (sW.tP (p+16)).1=P1 at *;generalize bMV:R.qz (sW.tP (p+16)).2=P2 at *;generalize hz:R.pz (-(p+16))=z at *;have aPM:R.pz (-(p+16)-1)=z/2:=by
  have:=R.qA (-(p+16));rw[hz]at this;grind
 have a0:=R.aM (R.qz r);have bKE:∀(x y:Rat),0<=y->R.ab (x*y)=R.ab x*y:=fun x y hy=>by rw[R.fJ,R.bG hy]
 have p1:0<=P1:=by grind
 have p2:0<=P2:=by grind
 have bNL:∀x:Rat,x=R.qz r*P1\/x=R.qz r*P2->R.ab x<=R.ab (R.qz r)*(16/5)/\R.ab x<=1:=by
  intro x hx;have m1:=R.aF a0 (show 0<=16/5-P1 by grind);have m2:=R.aF a0 (show 0<=16/5-P2 by grind);rcases hx with h |h
  ·rw[h,bKE _ _ p1];grind
  ·rw[h,bKE _ _ p2];grind
 obtain⟨bL,cL⟩:=bNL _ pL.2;obtain⟨bH,cH⟩:=bNL _ pH.2;have wd:R.qz H-R.qz L<=R.ab (R.qz r)*z:=by
  have t1:=R.Bs (R.qz r);have t2:=R.nI (R.qz r);have m1:=R.aF (show 0<=R.ab (R.qz r)-R.qz r by grind) (bZY z0);have m2:=R.aF (show 0<=R.ab (R.qz r)+R.qz r by grind) (bZY z0);have m3:=R.aF a0 (bZY z0);have e:R.qz r*P2=R.qz r*P1+R.qz r*z:=by
   rw[show P2=P1+z by grind];grind
  rcases pL.2 with h |h <;> rcases pH.2 with h' |h' <;> rw[h,h'] <;> grind
 have bEZ:(1:Rat)<=R.pz 1100:=by rw[<-R.fQ];exact R.bV (by decide)
 obtain⟨i1,i2,bx⟩:=aBW (s:=(L,H)) (V:=R.qz r*R.pi) (m:=0) (n:=p+16+8) pL.1 pH.1 cAZ (by dsimp only;grind) (by dsimp only;grind) wd (by omega) (by dsimp only;grind) (by dsimp only;grind);have eA:iB.Cr r (p+16)=(shD false L (p+16+8),shD true H (p+16+8)):=by
  unfold iB.Cr;rw[hL,hH]
 have e7:R.pz (1-(p+16+8))*128=z:=by
  have:=R.fG (-(p+16)) (n:=7) (c:=128) (by norm_cast);rw[<-hz,<-this,show 1-(p+16+8)=-(p+16)-((7:Nat):Int) by omega]
 have aWT:R.ab (R.qz r*R.pi)=R.ab (R.qz r)*R.pi:=bKE _ _ (by grind);have bNX:R.pz (-1074)=2*R.pz (-1075):=by
  have:=R.qA (-1074);rw[show(-1074:Int)-1=-1075 by rfl]at this;grind
 have tr:=aHK (l:=(iB.Cr r (p+16)).1) (h:=(iB.Cr r (p+16)).2) (p:=p-6) (n:=p+18) (r:=R.qz r*R.pi) (by omega) (by omega) (by rw[eA];exact bx.pl) (by rw[eA];exact bx.ph) (by rw[eA];have:=bx.lo;dsimp only at this ⊢;grind) (by rw[eA];have:=bx.hi;dsimp only at this ⊢;grind)
  (by
   rw[eA,aWT,show -(p-6)-23=-(p+16)-1 by omega,aPM];have w2:=bx.wd;dsimp only at w2 ⊢;have m1:=R.aF (bZY z0) a0;have m2:=R.aF (bZY z0) (show 0<=R.ab (R.qz r)*(16/5)-R.ab (R.qz L) by grind);have m3:=R.aF (bZY z0) (show 0<=R.ab (R.qz r)*(16/5)-R.ab (R.qz H) by grind);have m4:=R.aF (R.aF (bZY z0) a0) (show 0<=R.pi-3 by grind);have e8:R.pz (1-(p+16+8))*(R.ab (R.qz L)+R.ab (R.qz H))*128=z*(R.ab (R.qz L)+R.ab (R.qz H)):=by rw[<-e7];grind
   grind)
  (by
   rw[aWT,bNX];have m1:=R.aF a0 (show 0<=R.pi-3 by grind);grind)
  (by
   rw[aWT];have m1:=R.aF a0 (show 0<=314160/100000-R.pi by grind);grind)
 refine⟨⟨sP,mo,by rw[hL];exact i1,by rw[hH];exact i2,?_,?_⟩,tr⟩
 ·have:=tr.so;rw[show p+18-2=p+16 by omega]at this;exact this
 ·have:=tr.co;rw[show p+18-2=p+16 by omega]at this;exact this
end M
namespace W
open Go AI M
namespace lC
def E:=mE [(20,jY.aJ),(119,iQ.aJ)] 41 [] [(2,[0,4,7,8,10,15,16])] []
def aE:=bd f66
theorem aX:Nk E aE:=nk
def L2 a b c d e f g h i j k l m n o p q r s t:=sJ E f66 aE 2 [cK a,cK b,dK 2 44 [cU c,fU d,cX e,cU f,fU g,cX h],dK 3 44 [cU i,fU j,cX k,cU l,fU m,cX n],dK 4 44 [cU o,sc (slice none 0 0),cX p,cU q,sc (slice none 0 0),cX r],cK s,cK t]
theorem start a b c d f g h i j k l m n o e:aH E f66 aE [D.s (sc (int i64 a)),D.s (sc (int i64 b)),D.agg [sc (bool c),ints u64 d,sc (int i64 f),sc (bool g),ints u64 h,sc (int i64 i)],D.agg [sc (bool j),ints u64 k,sc (int i64 l),sc (bool m),ints u64 n,sc (int i64 o)],D.s (sc (int i64 e))]=lC.L2 a e c d f g h i j k l m n o false 0 false 0 b 0:=eJ aX
theorem lN a b c d e f g h i j k l m n o p q r s t:L2 a b c d e f g h i j k l m n o p q r s t=letI F:=(i,j,k,l,m,n);letI O:=dv (gX F);letI N:=dv (gW F);letI C:=(c,d,e,f,g,h);letI H:=dv (gX C);letI G:=dv (gW C);letI B:=iQ.Kb b G H N O;letI K:=aN B.fst B.snd;letI A:=iQ.Ka b G H N O;letI I:=aN A.fst A.snd;aB (decide (t<s)) (aO (eQ C) (aC (isNeg (-H.fst)) fun u=>aC (M6.dg (-H.fst).natAbs) fun v=>aC H.snd fun w=>aC (isNeg (-G.fst)) fun x=>aC (M6.dg (-G.fst).natAbs) fun y=>aC G.snd fun z=>lC.L2 a b i j k l m n u v w x y z o p q r s (i64.wrap (t+1)))) (aB (a==4) (some [D.agg [sc (bool c),ints u64 d,sc (int i64 e),sc (bool f),ints u64 g,sc (int i64 h)]]) (aB (a==5) (some [D.agg [sc (bool i),ints u64 j,sc (int i64 k),sc (bool l),ints u64 m,sc (int i64 n)]]) (aO (eQ C/\eQ F/\(1<=b/\b<=70000)/\fL.sF N O≠0/\(bl G.fst.natAbs<=262144/\bl H.fst.natAbs<=262144/\bl N.fst.natAbs<=262144/\bl O.fst.natAbs<=262144)/\gT A.fst A.snd=true/\gT B.fst B.snd=true) (aC (isNeg I.fst) fun aa=>aC (M6.dg I.fst.natAbs) fun ab=>aC I.snd fun ac=>aC (isNeg K.fst) fun ad=>aC (M6.dg K.fst.natAbs) fun ae=>aC K.snd fun af=>some [D.agg [sc (bool aa),ints u64 ab,sc (int i64 ac),sc (bool ad),ints u64 ae,sc (int i64 af)]])))):=lJ aX
def aRO (fn : Int) (n : Nat) (s c : (Int × Int) × (Int × Int)) (q : Int) : (Int × Int) × (Int × Int) :=
  bif fn == 4 then (VTurned.trn s c n).1 else bif fn == 5 then (VTurned.trn s c n).2 else
    (aN (iQ.Ka q (VTurned.trn s c n).1.1 (VTurned.trn s c n).1.2 (VTurned.trn s c n).2.1 (VTurned.trn s c n).2.2).1 (iQ.Ka q (VTurned.trn s c n).1.1 (VTurned.trn s c n).1.2 (VTurned.trn s c n).2.1 (VTurned.trn s c n).2.2).2,
     aN (iQ.Kb q (VTurned.trn s c n).1.1 (VTurned.trn s c n).1.2 (VTurned.trn s c n).2.1 (VTurned.trn s c n).2.2).1 (iQ.Kb q (VTurned.trn s c n).1.1 (VTurned.trn s c n).1.2 (VTurned.trn s c n).2.1 (VTurned.trn s c n).2.2).2)
def aOP(q:Int)(s c:(Int×Int)×(Int×Int)):Prop:=fL.sF c.1 c.2≠0/\(bl s.1.1.natAbs<=262144/\bl s.2.1.natAbs<=262144/\bl c.1.1.natAbs<=262144/\bl c.2.1.natAbs<=262144)/\gT (iQ.Ka q s.1 s.2 c.1 c.2).1 (iQ.Ka q s.1 s.2 c.1 c.2).2=true/\gT (iQ.Kb q s.1 s.2 c.1 c.2).1 (iQ.Kb q s.1 s.2 c.1 c.2).2=true
abbrev eS(s:wW):(Int×Int)×(Int×Int):=(dv (gW s),dv (gX s))
def sp(fn k:Int)(s c:wW)(q:Int):Prop×List D:=((eQ s/\eQ c)/\(0<=k/\k<=3)/\(1<=q/\q<=70000)/\(fn≠4->fn≠5->aOP q (VTurned.trn (eS s) (eS c) k.toNat).1 (VTurned.trn (eS s) (eS c) k.toNat).2),[uV (aRO fn k.toNat (eS s) (eS c) q).1 (aRO fn k.toNat (eS s) (eS c) q).2])
theorem L(fn q:Int)(hq:1<=q/\q<=70000):∀(d k:Nat) (s c:wW),k+d<=1000->eQ s->eQ c->(fn≠4->fn≠5->aOP q (VTurned.trn (eS s) (eS c) d).1 (VTurned.trn (eS s) (eS c) d).2) ->
  L2 fn q s.1 s.2.1 s.2.2.1 s.2.2.2.1 s.2.2.2.2.1 s.2.2.2.2.2 c.1 c.2.1 c.2.2.1 c.2.2.2.1 c.2.2.2.2.1 c.2.2.2.2.2 false 0 false 0 ((k+d:Nat):Int) (k:Int)=some [uV (aRO fn d (eS s) (eS c) q).1 (aRO fn d (eS s) (eS c) q).2]
 |0,k,s,c,h,h1,h2,hk=>by
  rw[lN,aL];unfold aRO VTurned.trn;unfold VTurned.trn at hk;dsimp only at hk ⊢
  by_cases f4:fn=4
  ·rw[cN f4,f4];show _=some [uV (dv (gW s)) (dv (gX s))];rw[h1.uV]
  ·rw[bM f4,beq_eq_false_iff_ne.2 f4,cond_false]
   by_cases f5:fn=5
   ·rw[cN f5,f5];show _=some [uV (dv (gW c)) (dv (gX c))];rw[h2.uV]
   ·rw[bM f5,beq_eq_false_iff_ne.2 f5,cond_false];obtain⟨k0,k1,k2,k3⟩:=hk f4 f5;exact gP ⟨h1,h2,hq,k0,k1,k2,k3⟩
 |d+1,k,s,c,h,h1,h2,hk=>by
  have e:i64.wrap ((k:Int)+1)=((k+1:Nat):Int):=by rw[wrap_i64];omega
  rw[lN,aQ,gP h1];simp only[aG,e];have en:eS (mM (jY.wI (dv (gX s))) (jY.wI (dv (gW s))))=(jY.wI (dv (gX s)),jY.wI (dv (gW s))):=by
   show(dv (gW (mM _ _)),dv (gX (mM _ _)))=_;rw[oL,oM]
  have r:=L fn q hq d (k+1) c (mM (jY.wI (dv (gX s))) (jY.wI (dv (gW s)))) (by omega) h2 (VTurned.aJA h1) (by rw[en];exact hk);rw[en,show k+1+d=k+(d+1) by omega]at r;exact r
theorem spec(fn k:Int)(s c:wW)(q:Int)(h:(sp fn k s c q).1):aH E f66 aE [(pN .i64).put fn,(pN .i64).put k,yH.put s,yH.put c,(pN .i64).put q]=some (sp fn k s c q).2:=by
 obtain⟨⟨h1,h2⟩,⟨q0,q1⟩,hq,hk⟩:=h;refine(start fn k s.1 s.2.1 s.2.2.1 s.2.2.2.1 s.2.2.2.2.1 s.2.2.2.2.2 c.1 c.2.1 c.2.2.1 c.2.2.2.1 c.2.2.2.2.1 c.2.2.2.2.2 q).trans ?_;obtain⟨n,rfl⟩:=bZV q0;have:=L fn q hq n 0 s c (by omega) h1 h2 hk;rw[Nat.zero_add]at this;exact this
def aJ:dO:=orc5 (pN .i64) (pN .i64) yH yH (pN .i64) sp
theorem ok:OK 66 aJ:=(fA E aE (aA jY.ok (aA iQ.ok aD)) func66).bFV rfl spec
end lC
end W
namespace M
open Go AI W
def tv(fn k:Int)(s c:Rat):Rat:=if fn=4 then R.rs k s c else if fn=5 then R.rc k s c else R.rs k s c/R.rc k s c
def tS(r:Int×Int)(p:Int):(Int×Int)×(Int×Int):=gS (iB.Cr r (p+16)).1 (iB.Cr r (p+16)).2 (p+18)
def tC(r:Int×Int)(p:Int):(Int×Int)×(Int×Int):=gC (iB.Cr r (p+16)).1 (iB.Cr r (p+16)).2 (p+18)
def tE(fn k:Int)(r:Int×Int)(p:Int):(Int×Int)×(Int×Int):=lC.aRO fn (k%4).toNat (tS r p) (tC r p) (p+16)
def tO(fn k:Int)(r:Int×Int)(p:Int):(Int×Int)×(Int×Int):=(shD false (tE fn k r p).1 (p+20),shD true (tE fn k r p).2 (p+20))
structure bUK(fn k:Int)(r:Int×Int)(p:Int):Prop where
 ci:iB.aRA r (p+16)
 sS:eQ (mM (tS r p).1 (tS r p).2)
 sC:eQ (mM (tC r p).1 (tC r p).2)
 qu:lC.aOP (p+16) (VTurned.trn (tS r p) (tC r p) (k%4).toNat).1 (VTurned.trn (tS r p) (tC r p) (k%4).toNat).2
 re:eQ (mM (tE fn k r p).1 (tE fn k r p).2)
 s1:wZ false (tE fn k r p).1 (p+20)=true
 s2:wZ true (tE fn k r p).2 (p+20)=true
 v0:tv fn k (R.sn (R.qz r*R.pi)) (R.cs (R.qz r*R.pi))≠0
 vl:R.pz (-1075)<=R.ab (tv fn k (R.sn (R.qz r*R.pi)) (R.cs (R.qz r*R.pi)))
 vh:R.ab (tv fn k (R.sn (R.qz r*R.pi)) (R.cs (R.qz r*R.pi)))<=R.pz 1075
 bx:Bx (tO fn k r p) (tv fn k (R.sn (R.qz r*R.pi)) (R.cs (R.qz r*R.pi))) (R.pz (-p-1)*R.ab (tv fn k (R.sn (R.qz r*R.pi)) (R.cs (R.qz r*R.pi)))) (mg (p-6))
 b45:fn=4\/fn=5->Bx (tO fn k r p) (tv fn k (R.sn (R.qz r*R.pi)) (R.cs (R.qz r*R.pi))) (R.pz (-p-5)*R.ab (tv fn k (R.sn (R.qz r*R.pi)) (R.cs (R.qz r*R.pi)))) (mg (p-6))
 bits:(bl (tO fn k r p).1.1.natAbs:Int)<=p+21/\(bl (tO fn k r p).2.1.natAbs:Int)<=p+21
 exps:-p-1200<=(tO fn k r p).1.2/\-p-1200<=(tO fn k r p).2.2
 on:fn=4\/fn=5->On (tO fn k r p)
theorem aDJ{s:(Int×Int)×(Int×Int)}{V ρ m:Rat}(h:Bx s V (ρ*R.ab V) m)(r1:ρ<=1/4)(V0:V≠0) :
  3/4*R.ab V<=R.ab (R.qz s.1)/\R.ab (R.qz s.1)<=5/4*R.ab V/\3/4*R.ab V<=R.ab (R.qz s.2)/\R.ab (R.qz s.2)<=5/4*R.ab V/\0<R.ab V:=by
 obtain⟨_,_,_,_,m0,lo,hi,wd⟩:=h;have a0:0<R.ab V:=by
  unfold R.ab;split <;> grind
 have k:=R.aF (bZY a0) (show 0<=1/4-ρ by grind);generalize hρ:ρ*R.ab V=W at *
 by_cases c:0<V
 ·have e:R.ab V=V:=R.bG (bZY c);rw[e]at a0 k hρ;rw[e];rw[R.bG (show 0<=R.qz s.1 by grind),R.bG (show 0<=R.qz s.2 by grind)];exact⟨by grind,by grind,by grind,by grind,c⟩
 ·have e:R.ab V=-V:=by unfold R.ab;rw[if_neg (by grind)]
  rw[e]at a0 k hρ;rw[e];rw[<-R.iI,R.bG (show 0<=-R.qz s.1 by grind),<-R.iI,R.bG (show 0<=-R.qz s.2 by grind)];exact⟨by grind,by grind,by grind,by grind,by grind⟩
theorem aHI{fn k:Int}{r:Int×Int}{p:Int}(h:bDH r)(hp:1<=p/\p<=66000)(hf:fn=4\/fn=5\/fn=6):bUK fn k r p:=by
 obtain⟨ci,tr⟩:=aWU h hp;obtain⟨_,_,bs,bc,os,oc⟩:=tr;obtain⟨ρ,hρ⟩:∃ρ,ρ=R.qz r*R.pi:=⟨_,rfl⟩;obtain⟨bOR,bOQ⟩:=R.gL;have ar:R.ab ρ=R.ab (R.qz r)*R.pi:=by rw[hρ,R.fJ,R.bG (show 0<=R.pi by grind)]
 have a0:=R.aM (R.qz r);have rg:3*R.pz (-1075)<=R.ab ρ:=by
  rw[ar];have:=h.g;have:=R.aF a0 (show 0<=R.pi-3 by grind);grind
 have rn:R.ab ρ<=79/100:=by
  rw[ar];have:=h.q;have:=R.aF a0 (show 0<=314160/100000-R.pi by grind);grind
 rw[<-hρ]at bs bc;rw[show gS (iB.Cr r (p+16)).1 (iB.Cr r (p+16)).2 (p+18)=tS r p from rfl]at bs os;rw[show gC (iB.Cr r (p+16)).1 (iB.Cr r (p+16)).2 (p+18)=tC r p from rfl]at bc oc;rw[show -(p-6)-12=-p-6 by omega]at bs bc;have bFP:=R.dC (-1075);have bPE:R.pz (-1075)<=1/4:=by
  have:=R.bV (show(-1075:Int)<=-2 by omega);have e:=R.fG 0 (n:=2) (c:=4) (by norm_cast);rw[R.fQ,show(0:Int)-((2:Nat):Int)=-2 by rfl]at e;grind
 obtain⟨c1,c2⟩:=R.Vu (r:=ρ) (by grind);have s0:R.pz (-1075)<=R.ab (R.sn ρ)/\R.ab (R.sn ρ)<=1:=by
  rw[<-R.aIF (by grind)];obtain⟨a,b⟩:=R.aBB (R.aM ρ) (by grind);constructor <;> grind
 have s1:R.pz (-1075)<=R.ab (R.cs ρ)/\R.ab (R.cs ρ)<=1:=by
  rw[R.bG (show 0<=R.cs ρ by grind)];constructor <;> grind
 obtain⟨S,hS⟩:∃S,S=R.rs k (R.sn ρ) (R.cs ρ):=⟨_,rfl⟩;obtain⟨C,hC⟩:∃C,C=R.rc k (R.sn ρ) (R.cs ρ):=⟨_,rfl⟩;have sS:R.pz (-1075)<=R.ab S/\R.ab S<=1:=by
  rw[hS,aBK];split <;> assumption
 have sC:R.pz (-1075)<=R.ab C/\R.ab C<=1:=by
  rw[hC,aBN];split <;> assumption
 have Kl:∀v:Rat,R.pz (-1075)<=R.ab v->v≠0:=fun v hv hz=>by rw[hz,R.bG cAZ]at hv;grind
 have S0:=Kl _ sS.1;have C0:=Kl _ sC.1;obtain⟨z,hz⟩:∃z,z=R.pz (-p-20):=⟨_,rfl⟩;have z0:=R.dC (-p-20);rw[<-hz]at z0;have pw:∀(a:Int) (n:Nat) (c:Rat),a=-p-20+(n:Int)->((2^n:Nat):Rat)=c->R.pz a=c*z:=fun a n c ha hc=>by
  rw[ha,R.dX,hc,hz];grind
 have e6:=pw (-p-6) 14 16384 (by omega) (by norm_cast);have e5:=pw (-p-5) 15 32768 (by omega) (by norm_cast);have e1:=pw (-p-1) 19 524288 (by omega) (by norm_cast);have aGV:=pw (2-(p+16)) 6 64 (by omega) (by norm_cast);have bEY:=pw (1-(p+20)) 1 2 (by omega) (by norm_cast);have zs:z<=1/2097152:=by
  have:=R.bV (show -p-20<=-21 by omega);have e:=R.fG 0 (n:=21) (c:=2097152) (by norm_cast);rw[R.fQ,show(0:Int)-((21:Nat):Int)=-21 by rfl]at e;grind
 obtain⟨b1,b2⟩:=Bx.trn bs bc (k:=k);rw[<-hS]at b1;rw[<-hC]at b2;have aUE:=On.trn os oc (k%4).toNat;obtain⟨t,ht⟩:∃t,t=VTurned.trn (tS r p) (tC r p) (k%4).toNat:=⟨_,rfl⟩;rw[<-ht]at b1 b2 aUE;have b1:Bx t.1 S (R.pz (-p-6)*R.ab S) (mg (p-6)):=by
  refine wR b1 ?_;rw[hS,aBK];split <;> exact cAZ
 have b2:Bx t.2 C (R.pz (-p-6)*R.ab C) (mg (p-6)):=by
  refine wR b2 ?_;rw[hC,aBN];split <;> exact cAZ
 rw[e6]at b1 b2;have n1:=Gk b1 (by grind) S0;have n2:=Gk b2 (by grind) C0;have bCN:R.pz (-1300)<=R.pz (-1075)/2:=by
  have:=R.qA (-1075);have:=R.bV (show(-1300:Int)<=-1075-1 by omega);grind
 have z1:Hw t.1.1:=yY b1.bl (tG (by grind)) (by grind) (by grind);have z2:Hw t.1.2:=yY b1.bh (tG (by grind)) (by grind) (by grind);have z3:Hw t.2.1:=yY b2.bl (tG (by grind)) (by grind) (by grind);have z4:Hw t.2.2:=yY b2.bh (tG (by grind)) (by grind) (by grind);have bCJ:S/C*C=S:=by grind
 obtain⟨q0,q1,q2,bq⟩:=aIN (p:=p+16) b1 b2 S0 C0 sC.2 (by grind) (by grind) bCJ (by omega) z1 z2 z3 z4;rw[aGV]at bq;have aV:R.ab (S/C)*R.ab C=R.ab S:=by rw[<-R.fJ,bCJ]
 have bPI:R.pz (-1075)*R.pz 1075=1:=by rw[<-R.jI];exact R.fQ
 have bUM:1<=R.pz 1075:=by rw[<-R.fQ];exact R.bV (by omega)
 have tV:R.pz (-1075)<=R.ab (S/C)/\R.ab (S/C)<=R.pz 1075:=by
  have a0:=R.aM (S/C);generalize R.ab (S/C)=a at *;constructor
  ·have:=R.aF a0 (show 0<=1-R.ab C by grind);grind
  ·refine R.bS bFP ?_;have:=R.aF a0 (show 0<=R.ab C-R.pz (-1075) by grind);grind
 have bKG:=Kl _ tV.1;obtain⟨V,hV⟩:∃V,V=tv fn k (R.sn ρ) (R.cs ρ):=⟨_,rfl⟩;obtain⟨bE,vl,vh,V0,oE⟩:Bx (tE fn k r p) V (200000*z*R.ab V) (mg (p-6))/\R.pz (-1075)<=R.ab V/\R.ab V<=R.pz 1075/\V≠0/\(fn=4\/fn=5->On (tE fn k r p)/\Bx (tE fn k r p) V (16384*z*R.ab V) (mg (p-6))):=by
  rcases hf with rfl |rfl |rfl
  ·have a:V=S:=by rw[hV,hS];rfl
   have b:tE 4 k r p=t.1:=by rw[ht];rfl
   rw[a,b];exact⟨wR b1 (by have:=R.aF (bZY z0) (R.aM S);grind),sS.1,by grind,S0,fun _=>⟨aUE.1,b1⟩⟩
  ·have a:V=C:=by rw[hV,hC];rfl
   have b:tE 5 k r p=t.2:=by rw[ht];rfl
   rw[a,b];exact⟨wR b2 (by have:=R.aF (bZY z0) (R.aM C);grind),sC.1,by grind,C0,fun _=>⟨aUE.2,b2⟩⟩
  ·have a:V=S/C:=by rw[hV,hS,hC];rfl
   have b:tE 6 k r p=(aN (iQ.Ka (p+16) t.1.1 t.1.2 t.2.1 t.2.2).1 (iQ.Ka (p+16) t.1.1 t.1.2 t.2.1 t.2.2).2,aN (iQ.Kb (p+16) t.1.1 t.1.2 t.2.1 t.2.2).1 (iQ.Kb (p+16) t.1.1 t.1.2 t.2.1 t.2.2).2):=by rw[ht];rfl
   rw[a,b];exact⟨wR bq (by have:=R.aF (bZY z0) (R.aM (S/C));grind),tV.1,tV.2,bKG,fun h=>by omega⟩
 have nE:=aDJ bE (by grind) V0;have bDI:2*R.pz 1075<=R.pz 1100:=by rw[<-R.kF];exact R.bV (by omega)
 obtain⟨bFJ,bFI,bO⟩:=Yi (n:=p+20) bE (by omega) (by grind) (by grind);rw[bEY]at bO;have bX:Bx (tO fn k r p) V (524288*z*R.ab V) (mg (p-6)):=by
  refine wR bO ?_;have k1:=R.aF (bZY z0) (show 0<=5/4*R.ab V-R.ab (R.qz (tE fn k r p).1) by grind);have k2:=R.aF (bZY z0) (show 0<=5/4*R.ab V-R.ab (R.qz (tE fn k r p).2) by grind);have k3:=R.aF (bZY z0) (R.aM V);grind
 have bY:fn=4\/fn=5->Bx (tO fn k r p) V (32768*z*R.ab V) (mg (p-6)):=by
  intro h;obtain⟨_,_,b⟩:=Yi (n:=p+20) (oE h).2 (by omega) (by grind) (by grind);rw[bEY]at b;refine wR b ?_;have k1:=R.aF (bZY z0) (show 0<=5/4*R.ab V-R.ab (R.qz (tE fn k r p).1) by grind);have k2:=R.aF (bZY z0) (show 0<=5/4*R.ab V-R.ab (R.qz (tE fn k r p).2) by grind);have k3:=R.aF (bZY z0) (R.aM V);grind
 have g1:=yZ false (tE fn k r p).1 (p+20).toNat;have g2:=yZ true (tE fn k r p).2 (p+20).toNat;rw[show(((p+20).toNat:Nat):Int)=p+20 by omega]at g1 g2;have nX:=aDJ bX (by grind) V0;have m1:(tO fn k r p).1.1≠0:=tG (by grind);have m2:(tO fn k r p).2.1≠0:=tG (by grind);have x1:=Ih (up:=false) (p:=(tE fn k r p).1) (n:=p+20) m1;have x2:=Ih (up:=true) (p:=(tE fn k r p).2) (n:=p+20) m2;have bCO:R.pz (-1076)<=3/4*R.pz (-1075):=by
  have:=R.qA (-1075);rw[show(-1075:Int)-1=-1076 by rfl]at this;grind
 have y1:=Cg (p:=(tE fn k r p).1) (E:=-1076) (tG (by grind)) (by grind);have y2:=Cg (p:=(tE fn k r p).2) (E:=-1076) (tG (by grind)) (by grind);have aGL:tv fn k (R.sn (R.qz r*R.pi)) (R.cs (R.qz r*R.pi))=V:=by rw[<-hρ,hV]
 refine⟨ci,bs.yV,bc.yV,?_,bE.yV,bFJ,bFI,?_,?_,?_,?_,?_,?_,?_,?_⟩
 ·rw[<-ht];exact⟨q0,⟨bVN z1.1 (by omega),bVN z2.1 (by omega),bVN z3.1 (by omega),bVN z4.1 (by omega)⟩,q1,q2⟩
 ·rw[aGL];exact V0
 ·rw[aGL];exact vl
 ·rw[aGL];exact vh
 ·rw[aGL,e1];exact bX
 ·rw[aGL,e5];exact bY
 ·constructor
  ·show((bl (shD false (tE fn k r p).1 (p+20)).1.natAbs:Nat):Int)<=_;omega
  ·show((bl (shD true (tE fn k r p).2 (p+20)).1.natAbs:Nat):Int)<=_;omega
 ·constructor
  ·show -p-1200<=(shD false (tE fn k r p).1 (p+20)).2;omega
  ·show -p-1200<=(shD true (tE fn k r p).2 (p+20)).2;omega
 ·intro h2;exact⟨Qr (by omega) (oE h2).1.1,Qr (by omega) (oE h2).1.2⟩
theorem aOJ{m e:Int}(he:e<0):-p2 (-1-e)<=cV.Ud (m,e)/\cV.Ud (m,e)<p2 (-1-e):=by
 unfold cV.Ud cV.zC
 try dsimp only
 rw[aU,aU];have h1:p2 (-e)=p2 (-1-e)*2:=by
  have:=sG (m:=-1-e) (n:=1) (by omega) (by omega);rwa [show -1-e+1=-e by omega]at this
 have h2:p2 (1-e)=p2 (-1-e)*4:=by
  have:=sG (m:=-1-e) (n:=2) (by omega) (by omega);rwa [show -1-e+2=1-e by omega]at this
 rw[h1,h2];have hp:=Kg (-1-e);generalize p2 (-1-e)=v at *;have a1:=Int.mul_ediv_add_emod (m*4+v*2) (v*4);have a2:=cDN (m*4+v*2) (show v*4≠0 by omega);have a3:=Int.emod_lt_of_pos (m*4+v*2) (show 0<v*4 by omega);generalize (m*4+v*2)/(v*4)=K at *;have e1:v*4*K=K*v*4:=by rw[Int.mul_comm,cAY]
 have e2:K*(v*2)=K*v*2:=by rw[cAY]
 rw[e1]at a1;rw[e2];generalize K*v=t at *;omega
theorem aTT{a:Int×Int}(he:-1074<=a.2/\a.2<=-2)(ho:a.1%2=1):bDH (cV.Fj a):=by
 obtain⟨m,e⟩:=a;dsimp only at he ho;have rr:=aOJ (m:=m) (e:=e) (by omega);have hR:cV.Ud (m,e)=m*2-cV.zC (m,e)*p2 (-e):=by
  unfold cV.Ud;dsimp only;rw[aU]
 have hD:cV.Fj (m,e)=aN (cV.Ud (m,e)) (e-1):=rfl;have h4:p2 (-e)=p2 (-2-e)*4:=by
  have:=sG (m:=-2-e) (n:=2) (by omega) (by omega);rwa [show -2-e+2=-e by omega]at this
 rw[h4,<-cAY]at hR;rw[hD];generalize cV.zC (m,e)*p2 (-2-e)=q at hR;generalize cV.Ud (m,e)=z at *;have z0:z≠0:=by omega
 obtain⟨j,hj⟩:=bZV (show 0<=-1-e by omega);have hp:p2 (-1-e)=((2^j:Nat):Int):=by rw[hj,Cl]
 have za:z.natAbs<=2^j:=by omega
 have zb:bl z.natAbs<=j+1:=dA.2 (by rw[bZQ];have:=bXR (n:=j) (show 0<2 by decide);omega);have tl:tz z.natAbs<=j:=by
  have:=Ji (n:=z.natAbs) (by omega);rcases Nat.lt_or_ge j (tz z.natAbs)with h |h
  ·have h5:2^(j+1)<=2^tz z.natAbs:=gN;rw[bZQ]at h5;have:=bXR (n:=j) (show 0<2 by decide);omega
  ·exact h
 have x1:=(lE (e:=e-1) z0).2;have eq:R.qz (aN z (e-1))=R.qz (z,e-1):=oH _ _;have e1:R.pz (e-1)*((2^j:Nat):Rat)=1/4:=by
  rw[<-R.dX,show e-1+(j:Int)=-2 by omega];have e:=R.fG 0 (n:=2) (c:=4) (by norm_cast);rw[R.fQ,show(0:Int)-((2:Nat):Int)=-2 by rfl]at e;grind
 have P:=R.dC (e-1);refine⟨gJ (gO (by omega) (by omega)) (by omega),bVN (vB _ _) (by omega),by omega,?_,?_⟩
 ·rw[eq,Pw];have h1:(z.natAbs:Rat)<=((2^j:Nat):Rat):=by exact_mod_cast za
  have:=R.aF (bZY P) (show 0<=((2^j:Nat):Rat)-(z.natAbs:Rat) by grind);dsimp only;grind
 ·rw[eq,Pw];have h1:(1:Rat)<=(z.natAbs:Rat):=by exact_mod_cast(show 1<=z.natAbs by omega)
  have:=R.aF (bZY P) (show 0<=(z.natAbs:Rat)-1 by grind);have:=R.bV (show(-1075:Int)<=e-1 by omega);dsimp only;grind
end M
namespace W
open Go AI M
namespace aAD
def E:=mE [(57,Wt.aJ)] 8 [] [] []
def aE:=bd f62
theorem aX:Nk E aE:=nk
theorem start a:aH E f62 aE [D.s (sc (int i64 a))]=letI A:=bif gT a 0 then aN a 0 else((0:Int),(0:Int));letI C:=M6.dg A.fst.natAbs;letI B:=bool (isNeg A.fst);aO (((-9223372036854775808:Int)<=a/\a<9223372036854775808)/\(-9223372036854775808:Int)<=(0:Int)/\(0:Int)<(9223372036854775808:Int)) (aO (((-9223372036854775808:Int)<=a/\a<9223372036854775808)/\(-9223372036854775808:Int)<=(0:Int)/\(0:Int)<(9223372036854775808:Int)) (some [D.agg [sc B,ints u64 C,sc (int i64 A.snd),sc B,ints u64 C,sc (int i64 A.snd)]])):=eJ aX
def sD(p q:Int×Int):D:=.agg [.sc (.bool (isNeg p.1)),.ints .u64 (M6.dg p.1.natAbs),.sc (.int .i64 p.2),.sc (.bool (isNeg q.1)),.ints .u64 (M6.dg q.1.natAbs),.sc (.int .i64 q.2)]
def sp(m:Int):Prop×List D:=(-9223372036854775808<=m/\m<9223372036854775808,[sD (aN m 0) (aN m 0)])
theorem spec:jD E f62 aE (pN .i64) sp:=by
 intro m h;have h:-9223372036854775808<=m/\m<9223372036854775808:=h;refine(start m).trans ?_;have hb:bl m.natAbs<=64:=dA.2 (by omega);rw[gP ⟨h,by omega,by omega⟩,gP ⟨h,by omega,by omega⟩];have e:(bif gT m 0 then aN m 0 else((0:Int),(0:Int)))=aN m 0:=by rw[gO (by omega) (by omega)];rfl
 rw[e];rfl
def aJ:dO:=orc1 (pN .i64) sp
theorem ok:OK 62 aJ:=(fA E aE (aA Wt.ok aD) func62).pU rfl spec
end aAD
namespace Em
def aWG(fn:Int)(b:Int):Int:=if(fR.nW 64 b).1=0 then(if fn=5 then 1 else 0)else if(fF.Bp fn (fR.nW 64 b)).2.1=true then -(fF.Bp fn (fR.nW 64 b)).1 else(fF.Bp fn (fR.nW 64 b)).1
end Em
namespace rP
def E:=mE [(61,uS.aJ),(12,bP.aJ),(62,aAD.aJ),(63,fF.aJ),(18,cV.aJ),(64,iB.aJ),(66,lC.aJ),(65,aMR.aJ)] 98 [33] [(3,[0,1,2,6])] [3]
def aE:=bd f19
theorem aX:Nk E aE:=nk
def J3 a b c d e f g:=mT E f19 aE 3 [cK a,dG b,cK c,dK 3 44 [cU d,sc (slice none 0 0),cX e,cU f,sc (slice none 0 0),cX g]]
theorem start a b c:aH E f19 aE [D.s (sc (int i64 a)),D.s (sc (int u64 b)),D.s (sc (int i64 c))]=letI A:=some [D.agg [sc (bool false),sc (slice none 0 0),sc (int i64 0),sc (bool false),sc (slice none 0 0),sc (int i64 0)],D.s (sc (int i64 1))];aO True (aB (!uS.zK a) A (aB (decide (c<1)) A (aB (decide (66000<c)) A (rP.J3 a b c false 0 false 0)))):=eJ aX
theorem iA a b c d e f g:J3 a b c d e f g=letI F1:=bool false;letI A1:=aN 0 0;letI G1:=M6.dg A1.fst.natAbs;letI Z:=aN 1 0;letI I1:=M6.dg Z.fst.natAbs;letI Y:=slice none 0 0;letI X:=i64.wrap (c+16);letI Q:=int i64 0;letI K:=i64.wrap (c+20);letI G:=bif cA.jB 64 b then cV.Fj (cV.pS b)else((0:Int),(0:Int));letI F:=i64.wrap (c+16)+2;letI C:=bif cS.fO 64 b&&cA.jB 64 b then aN (bP.nB 64 b) (bP.nH 64 b)else((0:Int),(0:Int));aO (((64:Int)=(32:Int)\/(64:Int)=(64:Int))/\0<=b/\b<18446744073709551616) (aC (isNeg C.fst) fun h=>aC (M6.dg C.fst.natAbs) fun i=>aC C.snd fun j=>letI T:=fF.Bp a (dv (h,i,j));aC (bif cS.fO 64 b then bif cA.jB 64 b then(0:Int)else(6:Int)else(2:Int)) fun k=>aB (k !=0) (some [D.agg [sc F1,sc Y,sc Q,sc F1,sc Y,sc Q],D.s (sc (int i64 k))]) (aB ((i.length:Int)==(0:Int)) (aB (a==5) (aO ((-9223372036854775808:Int)<=(1:Int)/\(1:Int)<(9223372036854775808:Int)) (aC (isNeg Z.fst) fun l=>aC I1 fun m=>aC Z.snd fun n=>aC (isNeg Z.fst) fun o=>aC I1 fun p=>aC Z.snd fun q=>some [D.agg [sc (bool l),ints u64 m,sc (int i64 n),sc (bool o),ints u64 p,sc (int i64 q)],D.s (sc Q)])) (aO ((-9223372036854775808:Int)<=(0:Int)/\(0:Int)<(9223372036854775808:Int)) (aC (isNeg A1.fst) fun r=>aC G1 fun s=>aC A1.snd fun t=>aC (isNeg A1.fst) fun u=>aC G1 fun v=>aC A1.snd fun w=>some [D.agg [sc (bool r),ints u64 s,sc (int i64 t),sc (bool u),ints u64 v,sc (int i64 w)],D.s (sc Q)]))) (aO (aP (h,i,j)) (aC T.fst fun x=>letI B1:=aN x 0;letI H1:=M6.dg B1.fst.natAbs;letI H:=aN (i64.wrap ((0:Int)-x)) 0;letI K1:=M6.dg H.fst.natAbs;aC T.snd.fst fun y=>aC T.snd.snd fun z=>aB z (aB (x==2) (some [D.agg [sc F1,sc Y,sc Q,sc F1,sc Y,sc Q],D.s (sc (int i64 6))]) (aB y (aO ((-9223372036854775808:Int)<=i64.wrap ((0:Int)-x)/\i64.wrap ((0:Int)-x)<9223372036854775808) (aC (isNeg H.fst) fun aa=>aC K1 fun ab=>aC H.snd fun ac=>aC (isNeg H.fst) fun ad=>aC K1 fun ae=>aC H.snd fun af=>some [D.agg [sc (bool aa),ints u64 ab,sc (int i64 ac),sc (bool ad),ints u64 ae,sc (int i64 af)],D.s (sc Q)])) (aO ((-9223372036854775808:Int)<=x/\x<9223372036854775808) (aC (isNeg B1.fst) fun ag=>aC H1 fun ah=>aC B1.snd fun ai=>aC (isNeg B1.fst) fun aj=>aC H1 fun ak=>aC B1.snd fun al=>some [D.agg [sc (bool ag),ints u64 ah,sc (int i64 ai),sc (bool aj),ints u64 ak,sc (int i64 al)],D.s (sc Q)])))) (aO (0<=b/\b<18446744073709551616) (aC (bif cA.jB 64 b then cV.zC (cV.pS b)%4 else(0:Int)) fun am=>aC (isNeg G.fst) fun an=>aC (M6.dg G.fst.natAbs) fun ao=>aC G.snd fun ap=>letI A:=iB.Cr (dv (an,ao,ap)) X;letI P:=gC A.fst A.snd F;letI O:=gS A.fst A.snd F;aO (aP (an,ao,ap)/\(1<=i64.wrap (c+16)/\i64.wrap (c+16)<=66500)/\iB.aRA (dv (an,ao,ap)) X) (aC (isNeg O.fst.fst) fun aq=>aC (M6.dg O.fst.fst.natAbs) fun ar=>aC O.fst.snd fun au=>aC (isNeg O.snd.fst) fun av=>aC (M6.dg O.snd.fst.natAbs) fun aw=>aC O.snd.snd fun ax=>letI C1:=(aq,ar,au,av,aw,ax);aC (isNeg P.fst.fst) fun ay=>aC (M6.dg P.fst.fst.natAbs) fun az=>aC P.fst.snd fun ba=>aC (isNeg P.snd.fst) fun bb=>aC (M6.dg P.snd.fst.natAbs) fun bc=>aC P.snd.snd fun be=>letI D1:=(ay,az,ba,bb,bc,be);letI N:=VTurned.trn (lC.eS C1) (lC.eS D1) am.toNat;letI B:=lC.aRO a am.toNat (lC.eS C1) (lC.eS D1) X;aO ((eQ C1/\eQ D1)/\(0<=am/\am<=3)/\(1<=i64.wrap (c+16)/\i64.wrap (c+16)<=70000)/\(a≠4->a≠5->lC.aOP X N.fst N.snd)) (aC (isNeg B.fst.fst) fun bf=>aC (M6.dg B.fst.fst.natAbs) fun bg=>aC B.fst.snd fun bh=>aC (isNeg B.snd.fst) fun bi=>aC (M6.dg B.snd.fst.natAbs) fun bj=>aC B.snd.snd fun bk=>letI I:=(bf,bg,bh,bi,bj,bk);letI W:=M.shD true (dv (gX I)) K;letI U:=M.shD false (dv (gW I)) K;aO (eQ I/\(1<=i64.wrap (c+20)/\i64.wrap (c+20)<=70000)/\wZ false (dv (gW I)) K=true/\wZ true (dv (gX I)) K=true) (aC (isNeg U.fst) fun bm=>aC (M6.dg U.fst.natAbs) fun bn=>aC U.snd fun bo=>aC (isNeg W.fst) fun bp=>aC (M6.dg W.fst.natAbs) fun bq=>aC W.snd fun br=>some [D.agg [sc (bool bm),ints u64 bn,sc (int i64 bo),sc (bool bp),ints u64 bq,sc (int i64 br)],D.s (sc Q)]))))))))):=cJ aX
def aWB(fn b:Int):Bool:=(fR.nW 64 b).1==0||(fF.Bp fn (fR.nW 64 b)).2.2
def aRZ(fn b:Int):Bool:=(fR.nW 64 b).1 !=0&&(fF.Bp fn (fR.nW 64 b)).2.2&&(fF.Bp fn (fR.nW 64 b)).1==2
def aRP(fn b p:Int):(Int×Int)×(Int×Int):=bif aWB fn b then(bif aRZ fn b then((0,0),(0,0))else(aN (Em.aWG fn b) 0,aN (Em.aWG fn b) 0))else tO fn (cV.zC (cV.pS b)) (cV.Fj (cV.pS b)) p
def sp(fn b p:Int):Prop×List D:=((0<=b/\b<18446744073709551616)/\(fn=4\/fn=5\/fn=6)/\(1<=p/\p<=66000)/\cA.jB 64 b=true,[uV (aRP fn b p).1 (aRP fn b p).2,.s (.sc (.int .i64 (bif aRZ fn b then 6 else 0)))])
theorem fold(a b:Int×Int):(isNeg a.1,M6.dg a.1.natAbs,a.2,isNeg b.1,M6.dg b.1.natAbs,b.2)=mM a b:=rfl
theorem aIZ{fn b:Int}(h:0<=b)(hf:cA.jB 64 b=true)(h4:fn=4\/fn=5\/fn=6)(hx:aWB fn b=false):bDH (cV.Fj (cV.pS b)):=by
 obtain⟨hp,hm,e0,e1⟩:=cV.aIW h hf;unfold aWB at hx;rw[show fR.nW 64 b=cV.pS b from rfl]at hx;generalize cV.pS b=q at *;have z0:q.1≠0:=fun hz=>by rw[hz]at hx;exact Bool.noConfusion hx
 have hv:(fF.Bp fn q).2.2=false:=by
  cases hc:(fF.Bp fn q).2.2 with
  |false=>rfl
  |true=>rw[hc,Bool.or_true]at hx;exact Bool.noConfusion hx
 have he:q.2<=-2:=by
  rcases Int.lt_or_le (-2) q.2 with jL |hle
  ·exfalso;unfold fF.Bp at hv
   by_cases c0:0<=q.2
   ·rcases h4 with rfl |rfl |rfl <;> simp[c0]at hv
   ·have c1:q.2=-1:=by omega
    rcases h4 with rfl |rfl |rfl <;> simp[c1]at hv
  ·exact hle
 exact aTT ⟨e0,he⟩ (hp.2.2.2 z0)
theorem spec:aWV E f19 aE (pN .i64) (pN .u64) (pN .i64) sp:=by
 rintro fn b p ⟨h,h4,⟨zO,vQ⟩,hf⟩;have hp:cS.fO 64 b=true:=rfl;have hk:uS.zK fn=true:=by rcases h4 with rfl |rfl |rfl <;> rfl
 have e1:(bif cS.fO 64 b&&cA.jB 64 b then aN (bP.nB 64 b) (bP.nH 64 b)else((0:Int),(0:Int)))=fR.nW 64 b:=by rw[hp,hf];rfl
 have e2:(bif cS.fO 64 b then bif cA.jB 64 b then(0:Int)else 6 else 2)=0:=by rw[hp,hf];rfl
 have s:=(start fn b p).trans (gP trivial);rw[hk,bWR,bF,aL,aL,iA,gP ⟨.inr rfl,h⟩,e1,e2,Bq,vl,gE rfl]at s;have aEN:=(fR.Uo (.inr rfl) h.1 hf).1;have hn:aWB fn b=false->bDH (cV.Fj (cV.pS b)):=aIZ h.1 hf h4;have bAW:fR.nW 64 b=cV.pS b:=rfl;unfold sp aRP;dsimp only;unfold aWB aRZ Em.aWG at *;generalize fR.nW 64 b=q at *;have hl:(M6.dg q.1.natAbs).length=0↔q.1=0:=by rw[M6.iO];omega
 by_cases hz:q.1=0
 ·refine⟨_,s.trans ?_,iE.refl _⟩;rw[cN (by have:=hl.2 hz;omega),if_pos hz,hz]
  by_cases h5:fn=5
  ·rw[cN h5,if_pos h5,gP];rfl
  ·rw[bM h5,if_neg h5,gP];rfl
 ·rw[bM (fun h=>hz (hl.1 (by omega))),gP (dJ aEN),dT,vl,vl,vl]at s;rw[show(q.1==0)=false from beq_eq_false_iff_ne.2 hz,show(q.1 !=0)=true by simp[hz],bWS,bXT,if_neg hz];have hn:=fun hx=>hn (by rw[show(q.1==0)=false from beq_eq_false_iff_ne.2 hz,bWS];exact hx)
  have hs:=fR.aCU fn q;cases hv:(fF.Bp fn q).2.2 with
  |true =>
   rw[hv,bT]at s;rw[cond_true,bXT]
   by_cases c2:(fF.Bp fn q).1=2
   ·rw[cN c2]at s;rw[c2];refine⟨_,s,.cons ?_ (iE.refl _)⟩;show yQ _ (uV (0,0) (0,0));unfold uV;dsimp only;rw[show(0:Int).natAbs=0 from rfl,M6.cF];exact yQ.agg (.cons (Cu.refl _) (.cons (Cu.nil _) (.cons (Cu.refl _) (.cons (Cu.refl _) (.cons (Cu.nil _) (yE.refl _))))))
   ·rw[bM c2]at s;rw[show((fF.Bp fn q).1==2)=false from beq_eq_false_iff_ne.2 c2];refine⟨_,s.trans ?_,iE.refl _⟩;cases hg:(fF.Bp fn q).2.1 with
    |false=>rw[bF,if_neg (by simp),gP];rfl
    |true=>rw[bT,if_pos rfl,wrap_i64 (n:=0-(fF.Bp fn q).1),Int.zero_sub,gP];rfl
  |false =>
   have hr:=hn hv;rw[hv,bF,gP h,hf]at s;rw[cond_false,cAA];dsimp only[cond_true]at s;have N:=aHI (k:=cV.zC (cV.pS b)) hr ⟨zO,vQ⟩ h4;have w1:i64.wrap (p+16)=p+16:=wrap_i64;have w2:i64.wrap (p+20)=p+20:=wrap_i64;have bJY:p+16+2=p+18:=by omega
   have N2:=N.bx.yV;generalize cV.zC (cV.pS b)=k at *;generalize cV.Fj (cV.pS b)=r at *;rw[vl,Bq,w1,dT,bJY]at s;have s:=s.trans (gP ⟨dJ hr.uZ,⟨by omega,by omega⟩,N.ci⟩);rw[show gS (iB.Cr r (p+16)).1 (iB.Cr r (p+16)).2 (p+18)=tS r p from rfl,show gC (iB.Cr r (p+16)).1 (iB.Cr r (p+16)).2 (p+18)=tC r p from rfl]at s;have eS:lC.eS (mM (tS r p).1 (tS r p).2)=tS r p:=by
    show(dv (gW (mM _ _)),dv (gX (mM _ _)))=_;rw[oL,oM]
   have eC:lC.eS (mM (tC r p).1 (tC r p).2)=tC r p:=by
    show(dv (gW (mM _ _)),dv (gX (mM _ _)))=_;rw[oL,oM]
   rw[aG,aG,aG,aG,aG,aG,aG,aG,aG,aG,aG,aG,fold,fold,eS,eC]at s;have s:=s.trans (gP ⟨⟨N.sS,N.sC⟩,⟨cDN _ (by decide),by omega⟩,⟨by omega,by omega⟩,fun _ _=>N.qu⟩);rw[show lC.aRO fn (k%4).toNat (tS r p) (tC r p) (p+16)=tE fn k r p from rfl,aG,aG,aG,aG,aG,aG,fold,w2,oL,oM]at s;have s:=s.trans (gP ⟨N.re,⟨by omega,by omega⟩,N.s1,N.s2⟩);exact⟨_,s,iE.refl _⟩
def aJ:dO:=orc3 (pN .i64) (pN .u64) (pN .i64) sp
theorem ok:OK 19 aJ:=(fA E aE (aA uS.ok (aA bP.ok (aA aAD.ok (aA fF.ok (aA cV.ok (aA iB.ok (aA lC.ok (aA aMR.ok aD)))))))) func19).bFG rfl spec
end rP
end W
namespace M
open Go AI W
structure bNU(s:(Int×Int)×(Int×Int))(V:Rat)(p:Int):Prop where
 f1:bNT s.1 66021 (-p-1200) 1
 f2:bNT s.2 66021 (-p-1200) 1
 lo:R.qz s.1<=V
 hi:V<=R.qz s.2
theorem bNU.sp{s:(Int×Int)×(Int×Int)}{V:Rat}{p:Int}(h:bNU s V p):eQ (mM s.1 s.2):=by
 have:=h.lo;have:=h.hi;exact xF h.f1.uZ h.f2.uZ (kV.2 (by grind))
end M
namespace M
open Go AI W
def vT(fn b:Int):Rat:=tv fn (cV.zC (cV.pS b)) (R.sn (R.qz (cV.Fj (cV.pS b))*R.pi)) (R.cs (R.qz (cV.Fj (cV.pS b))*R.pi))
end M
namespace AI
open Go Go.RowKit
structure aFR(α:Type) where
 put:α->Value
 get:Value->Option α
 eq:∀{v x},get v=some x->v=put x
def vN(k:IntKind):aFR Int where
 put n:=.int k n
 get
  | .int k' n=>if _h:k=k' then some n else none
  |_=>none
 eq:=by
  intro v x h;split at h
  ·split at h
   ·rename_i hk;subst hk;cases h;rfl
   ·cases h
  ·cases h
def vF:aFR Nat where
 put g:=.func (.func g) #[] #[]
 get
  | .func (.func g) ⟨[]⟩ ⟨[]⟩=>some g
  |_=>none
 eq:=by
  intro v x h;split at h
  ·cases h;rfl
  ·cases h
def vC(id:FuncId):aFR Unit where
 put _:=.func (.func id) #[] #[]
 get
  | .func (.func g) ⟨[]⟩ ⟨[]⟩=>if g=id then some ()else none
  |_=>none
 eq:=by
  intro v x h;split at h
  ·split at h
   ·rename_i hg;subst hg;rfl
   ·cases h
  ·cases h
structure aMY(α:Type) where
 put:α->List Value
 get:List Value->Option α
 eq:∀{v x},get v=some x->v=put x
def l1{α:Type}(p:aFR α):aMY α where
 put a:=[p.put a]
 get
  | [v]=>p.get v
  |_=>none
 eq:=by
  intro v x h;split at h
  ·rw[p.eq h]
  ·cases h
def lc{α β:Type}(p:aFR α)(q:aMY β):aMY (α×β) where
 put a:=p.put a.1 :: q.put a.2
 get
  |v :: r=>match p.get v,q.get r with
   |some a,some b=>some (a,b)
   |_,_=>none
  |_=>none
 eq:=by
  intro v x h;split at h
  ·split at h
   ·rename_i h1 h2;cases h;rw[p.eq h1,q.eq h2]
   ·cases h
  ·cases h
def pPt{α:Type}(p:aFR α):kW α where
 put a:=.s (.pt (p.put a))
 get
  | .s (.pt v)=>p.get v
  |_=>none
 le:=by
  intro d x h;split at h
  ·rw[p.eq h];exact Cc.refl _
  ·cases h
def pClo{α:Type}(k:FuncId)(p:aMY α):kW α where
 put a:=.s (.Sd k (p.put a))
 get
  | .s (.Sd k' xs)=>if k=k' then p.get xs else none
  |_=>none
 le:=by
  intro d x h;split at h
  ·split at h
   ·rename_i hk;subst hk;rw[p.eq h];exact Cc.refl _
   ·cases h
  ·cases h
def aZE{α:Type}(k:FuncId)(p:aMY α):SPar α:=bDT (pClo k p) (fun a=>.Sd k (p.put a)) fun _=>rfl
theorem aOW{P:Program}{G:Nat->Option (IntKind×List Int)}{f:FuncId}{α β γ δ:Type}{p:kW α}{q:kW β}{r:kW γ}{s:kW δ}{sp:α->β->γ->δ->Prop×List D}(hb:pK P f)
  (h:∀a b c d,(sp a b c d).1->Contract P G f [p.put a,q.put b,r.put c,s.put d] (sp a b c d).2):lA P G f (orc4 p q r s sp):=by
 intro ds g rs ho hg;unfold orc4 at ho;split at ho
 ·split at ho
  ·rename_i h1 h2 h3 h4;have e:=Option.some.inj ho;have c:=(h _ _ _ _ (by rw[e];exact hg)).bKW (p.le h1) (q.le h2) (r.le h3) (s.le h4);rw[e]at c;exact⟨c,hb⟩
  ·cases ho
 ·cases ho
end AI
namespace W
open Go AI M
namespace eI
def E:=mE [(31,eN.aJ)] 22 [] [(4,[0,4,6,7])] [4]
def aE:=bd f73
theorem aX:Nk E aE:=nk
def J4 a b c d:=mT E f73 aE 4 [cK a,dK 1 42 [cX b],dK 2 129 [cX c,sc Value.nilFunc],dK 3 22 [Xr d]]
theorem start a b c:aH E f73 aE [D.s (sc (int i64 a)),D.s (sc (int i64 b)),D.s (sc (int u64 c))]=aB (a==32) (aO (0<=c/\c<18446744073709551616) (eI.J4 a b 0 (eN.Jg c))) (eI.J4 a b 0 c):=eJ aX
theorem Hn a b c d:J4 a b c d=aB (decide (4<=b)) (some [D.agg [sc (int i64 a),S.Sd 126 [Value.func (Fn.func 19) { toList:=[] } { toList:=[] },int i64 b,int u64 d]]]) (some [D.agg [sc (int i64 a),S.Sd 126 [Value.func (Fn.func 125) { toList:=[] } { toList:=[] },int i64 b,int u64 d]]]):=cJ aX
def xV(f b:Int):Int:=if f=32 then eN.Jg b else b
def gV(fn:Int):Nat:=if 4<=fn then 19 else 125
def sp(f fn b:Int):Prop×List D:=(0<=b/\b<18446744073709551616,[.agg [.sc (.int .i64 f),.Sd 126 [.func (.func (gV fn)) #[] #[],.int .i64 fn,.int .u64 (xV f b)]]])
theorem spec:oP E f73 aE (pN .i64) (pN .i64) (pN .u64) sp:=by
 intro f fn b h;have hb:0<=b/\b<18446744073709551616:=h;have j:∀x1:Int,J4 f fn 0 x1=some [.agg [.sc (.int .i64 f),.Sd 126 [.func (.func (gV fn)) #[] #[],.int .i64 fn,.int .u64 x1]]]:=by
  intro x1;rw[Hn];unfold gV
  by_cases h4:4<=fn
  ·rw[aQ h4,if_pos h4]
  ·rw[aL h4,if_neg h4]
 refine(start f fn b).trans ?_;unfold sp xV;dsimp only
 by_cases h1:f=32
 ·rw[cN h1,if_pos h1,gP hb,j]
 ·rw[bM h1,if_neg h1,j]
def aJ:dO:=orc3 (pN .i64) (pN .i64) (pN .u64) sp
theorem ok:OK 73 aJ:=(fA E aE (aA eN.ok aD) func73).yM rfl spec
end eI
namespace Bk
def E:=mE [(125,kC.aJ)] 14 [11] [] []
def aE:=bd f126
theorem aX:Nk E aE:=nk
theorem start p fn x:aH E f126 aE [D.s (sc (int i64 p)),D.s (S.pt (Value.func (Fn.func (125:FuncId)) #[] #[])),D.s (S.pt (int i64 fn)),D.s (S.pt (int u64 x))]=letI A:=kC.aQN fn x p;aO (0<=x/\x<18446744073709551616) (aC (isNeg A.fst.fst) fun a=>aC (M6.dg A.fst.fst.natAbs) fun b=>aC A.fst.snd fun c=>aC (isNeg A.snd.fst) fun d=>aC (M6.dg A.snd.fst.natAbs) fun e=>aC A.snd.snd fun f=>some [D.agg [sc (bool a),ints u64 b,sc (int i64 c),sc (bool d),ints u64 e,sc (int i64 f)],D.s (sc (int i64 (eZ.Tj fn x p)))]):=eJ aX
def sp(p:Int)(_:Unit)(fn x:Int):Prop×List D:=(0<=x/\x<18446744073709551616,[uV (kC.aQN fn x p).1 (kC.aQN fn x p).2,.s (.sc (.int .i64 (eZ.Tj fn x p)))])
theorem spec:Of E f126 aE (pN .i64) (pPt (vC 125)) (pPt (vN .i64)) (pPt (vN .u64)) sp:=fun p u fn x h =>
 (start p fn x).trans (gP h)
def aJ:dO:=orc4 (pN .i64) (pPt (vC 125)) (pPt (vN .i64)) (pPt (vN .u64)) sp
theorem ok:OK 126 aJ:=(fA E aE (aA kC.ok aD) func126).aNM rfl spec
end Bk
namespace Bj
def E:=mE [(19,rP.aJ)] 14 [11] [] []
def aE:=bd f126
theorem aX:Nk E aE:=nk
theorem start p fn x:aH E f126 aE [D.s (sc (int i64 p)),D.s (S.pt (Value.func (Fn.func (19:FuncId)) #[] #[])),D.s (S.pt (int i64 fn)),D.s (S.pt (int u64 x))]=letI A:=rP.aRP fn x p;aO ((0<=x/\x<18446744073709551616)/\(fn=4\/fn=5\/fn=6)/\(1<=p/\p<=66000)/\cA.jB 64 x=true) (aC (isNeg A.fst.fst) fun a=>aC (M6.dg A.fst.fst.natAbs) fun b=>aC A.fst.snd fun c=>aC (isNeg A.snd.fst) fun d=>aC (M6.dg A.snd.fst.natAbs) fun e=>aC A.snd.snd fun f=>aC (bif rP.aRZ fn x then(6:Int)else(0:Int)) fun g=>some [D.agg [sc (bool a),ints u64 b,sc (int i64 c),sc (bool d),ints u64 e,sc (int i64 f)],D.s (sc (int i64 g))]):=eJ aX
def sp(p:Int)(_:Unit)(fn x:Int):Prop×List D:=((0<=x/\x<18446744073709551616)/\(fn=4\/fn=5\/fn=6)/\(1<=p/\p<=66000)/\cA.jB 64 x=true,[uV (rP.aRP fn x p).1 (rP.aRP fn x p).2,.s (.sc (.int .i64 (bif rP.aRZ fn x then 6 else 0)))])
theorem spec:Of E f126 aE (pN .i64) (pPt (vC 19)) (pPt (vN .i64)) (pPt (vN .u64)) sp:=fun p u fn x h =>
 (start p fn x).trans (gP h)
def aJ:dO:=orc4 (pN .i64) (pPt (vC 19)) (pPt (vN .i64)) (pPt (vN .u64)) sp
theorem ok:OK 126 aJ:=(fA E aE (aA rP.ok aD) func126).aNM rfl spec
end Bj
namespace iZ
def enc(g:Nat)(fn x p:Int):(Int×Int)×(Int×Int):=if g=125 then kC.aQN fn x p else rP.aRP fn x p
def pre(g:Nat)(fn x p:Int):Prop:=(g=125/\(0<=x/\x<18446744073709551616)/\eZ.Tj fn x p=0)\/(g=19/\((0<=x/\x<18446744073709551616)/\(fn=4\/fn=5\/fn=6)/\(1<=p/\p<=66000)/\cA.jB 64 x=true)/\rP.aRZ fn x=false)
def sp(p:Int)(g:Nat)(fn x:Int):Prop×List D:=(pre g fn x p,[uV (enc g fn x p).1 (enc g fn x p).2,.s (.sc (.int .i64 0))])
def aJ:dO:=orc4 (pN .i64) (pPt vF) (pPt (vN .i64)) (pPt (vN .u64)) sp
theorem ok:OK 126 aJ:=aOW (qJ func126 rfl rfl) fun p g fn x h=>by
 rcases h with ⟨rfl,h,h0⟩ |⟨rfl,h,h0⟩
 ·have c:=(Bk.ok _ _ _ (show Bk.aJ [(pN .i64).put p,(pPt (vC 125)).put (),(pPt (vN .i64)).put fn,(pPt (vN .u64)).put x]=some (Bk.sp p () fn x)from rfl) h).1;have e:(Bk.sp p () fn x).2=(sp p 125 fn x).2:=by unfold Bk.sp sp enc;rw[h0];rfl
  rw[<-e];exact c
 ·have c:=(Bj.ok _ _ _ (show Bj.aJ [(pN .i64).put p,(pPt (vC 19)).put (),(pPt (vN .i64)).put fn,(pPt (vN .u64)).put x]=some (Bj.sp p () fn x)from rfl) h).1;have e:(Bj.sp p () fn x).2=(sp p 19 fn x).2:=by unfold Bj.sp sp enc;rw[h0];rfl
  rw[<-e];exact c
end iZ
namespace nN
def E:=mE [(84,mP.aJ),(39,fR.aJ),(82,gR.aJ)] 56 [26,37,51] [] []
def aE:=bd f72
theorem aX:Nk E aE:=nk
theorem start a b c d:aH E f72 aE [D.s (sc (int i64 a)),D.s (sc (int i64 b)),D.s (sc (int u64 c)),D.s (sc (int i64 d))]=letI F:=fR.uP a b c;letI C:=aI.fS a;letI B:=sc (bool true);letI A:=aO True (some [D.s (sc (int u64 C.snd.snd.snd)),D.s B]);aB (d==4) A (aB (d==3) A (aB (decide (4<=b)) (aO (0<=c/\c<18446744073709551616) (some [D.s (sc (int u64 F.fst)),D.s (sc (bool F.snd.fst))])) (aB (d !=0) (some [D.s (sc (int u64 0)),D.s (sc (bool false))]) (aB (b==2) (aO ((a=32\/a=64)/\((0:Int)<=(1:Int)/\(1:Int)<(18446744073709551616:Int))/\(-4000:Int)<=(0:Int)/\(0:Int)<=(2900:Int)) (some [D.s (sc (int u64 (gR.Qg C false (gR.uL C 1 0)))),D.s B])) (some [D.s (sc (int u64 c)),D.s B]))))):=eJ aX
def Tv(f fn b c:Int):Int×Bool:=if c=4 then((aI.fS f).2.2.2,true)else if c=3 then((aI.fS f).2.2.2,true)else if 4<=fn then((fR.uP f fn b).1,(fR.uP f fn b).2.1)else if c=0 then(if fn=2 then(gR.Qg (aI.fS f) false (gR.uL (aI.fS f) 1 0),true)else(b,true))else(0,false)
def sp(f fn b c:Int):Prop×List D:=((f=32\/f=64)/\0<=b/\b<18446744073709551616,[.s (.sc (.int .u64 (Tv f fn b c).1)),.s (.sc (.bool (Tv f fn b c).2))])
theorem spec:Of E f72 aE (pN .i64) (pN .i64) (pN .u64) (pN .i64) sp:=by
 rintro f fn b c ⟨hf,hb⟩;refine(start f fn b c).trans ?_;unfold sp Tv;dsimp only
 by_cases h4:c=4
 ·rw[cN h4,if_pos h4,gP trivial]
 rw[bM h4,if_neg h4]
 by_cases h3:c=3
 ·rw[cN h3,if_pos h3,gP trivial]
 rw[bM h3,if_neg h3]
 by_cases h5:4<=fn
 ·rw[aQ h5,if_pos h5,gP hb]
 rw[aL h5,if_neg h5]
 by_cases h0:c=0
 ·rw[gE h0,if_pos h0]
  by_cases h2:fn=2
  ·rw[cN h2,if_pos h2,gP ⟨hf,by omega,by omega,by omega⟩]
  ·rw[bM h2,if_neg h2]
 ·rw[oI h0,if_neg h0]
def aJ:dO:=orc4 (pN .i64) (pN .i64) (pN .u64) (pN .i64) sp
theorem ok:OK 72 aJ:=(fA E aE (aA mP.ok (aA fR.ok (aA gR.ok aD))) func72).aNM rfl spec
end nN
namespace oK
def E:=mE [(78,aI.aJ),(135,cE.aJ)] 36 [] [(6,[1,4,8])] [6]
def aE:=bd f77
theorem aX:Nk E aE:=nk
def J6 a b c d e f g h i:=mT E f77 aE 6 [dG a,dK 1 84 [cX b,cX c,cX d,Xr e],dK 2 84 [cX f,cX g,cX h,Xr i]]
theorem start a b:aH E f77 aE [D.s (sc (int i64 a)),D.s (sc (int u64 b))]=letI A:=aI.fS a;letI G:=int i64 A.snd.fst;letI F:=int u64 A.snd.snd.snd;letI C:=int i64 A.snd.snd.fst;letI B:=oK.J6 b 0 0 0 0 A.fst A.snd.fst A.snd.snd.fst A.snd.snd.snd;aO True (aB (A.fst==0&&(A.snd.fst==0&&(A.snd.snd.fst==0&&(A.snd.snd.snd==0&&true)))) (some [D.agg [sc (int i64 A.fst),sc G,sc C,sc F],D.s (sc (bool false)),D.s (sc (int u64 0)),D.s (sc (int i64 1))]) (aB (decide (A.fst<64)) (if A.fst<0 then none else aB (b/(↑((2:Nat)^min A.fst.toNat 64):Int) !=(0:Int)) (some [D.agg [sc (int i64 A.fst),sc G,sc C,sc F],D.s (sc (bool false)),D.s (sc (int u64 0)),D.s (sc (int i64 2))]) B) B)):=eJ aX
def Ru(f b:Int):Int:=bif mP.Cp f then(bif cS.fO f b then 0 else 2)else 1
def aUC(f b:Int):Bool:=mP.Cp f&&cS.fO f b
def sp(f b:Int):Prop×List D:=(0<=b/\b<18446744073709551616,[aI.bDS (aI.fS f),.s (.sc (.bool (aUC f b&&decide (cE.cT (aI.fS f)<=b)))),.s (.sc (.int .u64 (bif aUC f b then b%cE.cT (aI.fS f)else 0))),.s (.sc (.int .i64 (Ru f b)))])
theorem spec:gU E f77 aE (pN .i64) (pN .u64) sp:=by
 intro f b h;unfold sp aUC Ru
 by_cases hf:f=32\/f=64
 ·rw[show mP.Cp f=true from decide_eq_true hf,bXT,cond_true];exact cS.spec f b ⟨hf,h⟩
 ·rw[show mP.Cp f=false from decide_eq_false hf,cAA,cond_false];refine(start f b).trans ((gP trivial).trans ?_);have e:aI.fS f=(0,0,0,0):=by unfold aI.fS;rw[if_neg (fun h=>hf (.inl h)),if_neg (fun h=>hf (.inr h))]
  rw[e];rfl
def aJ:dO:=orc2 (pN .i64) (pN .u64) sp
theorem ok:OK 77 aJ:=(fA E aE (aA aI.ok (aA cE.ok aD)) func77).mV rfl spec
end oK
namespace kG
def E:=mE [(77,oK.aJ),(79,fB.aJ)] 24 [13,23] [] []
def aE:=bd f83
theorem aX:Nk E aE:=nk
theorem start a b:aH E f83 aE [D.s (sc (int i64 a)),D.s (sc (int u64 b))]=letI A:=aI.fS a;letI B:=(A.fst,A.snd.fst,A.snd.snd.fst,A.snd.snd.snd);aO (0<=b/\b<18446744073709551616) (aB (oK.Ru a b !=0) (some [D.s (sc (int i64 0)),D.s (sc (int i64 (oK.Ru a b)))]) (aO (aI.uY B) (some [D.s (sc (int i64 (fB.fW B (bif oK.aUC a b then b%cE.cT A else(0:Int))))),D.s (sc (int i64 0))]))):=eJ aX
def zW(f b:Int):Int:=bif oK.aUC f b then fB.fW (aI.fS f) (b%cE.cT (aI.fS f))else 0
def sp(f b:Int):Prop×List D:=(0<=b/\b<18446744073709551616,[.s (.sc (.int .i64 (zW f b))),.s (.sc (.int .i64 (oK.Ru f b)))])
theorem spec:gU E f83 aE (pN .i64) (pN .u64) sp:=by
 intro f b h;refine(start f b).trans ((gP h).trans ?_);unfold sp zW oK.Ru oK.aUC
 by_cases hf:f=32\/f=64
 ·rw[show mP.Cp f=true from decide_eq_true hf,bXT,cond_true];have ht:=cA.De hf;cases hp:cS.fO f b with
  |false=>rfl
  |true =>
   try dsimp only[cond_true]
   rw[gE rfl,gP ht]
 ·rw[show mP.Cp f=false from decide_eq_false hf];rfl
def aJ:dO:=orc2 (pN .i64) (pN .u64) sp
theorem ok:OK 83 aJ:=(fA E aE (aA oK.ok (aA fB.ok aD)) func83).mV rfl spec
end kG
namespace gZ
def E:=mE [(83,kG.aJ)] 24 [13] [] []
def aE:=bd f71
theorem aX:Nk E aE:=nk
theorem start a b c:aH E f71 aE [D.s (sc (int i64 a)),D.s (sc (int i64 b)),D.s (sc (int u64 c))]=letI B:=sc (int i64 (kG.zW a c));letI A:=some [D.s B,D.s (sc (int i64 1))];aO (0<=c/\c<18446744073709551616) (aB (decide (b<1)) A (aB (decide (6<b)) A (some [D.s B,D.s (sc (int i64 (oK.Ru a c)))]))):=eJ aX
def tY(f fn b:Int):Int:=if fn<1 then 1 else if 6<fn then 1 else oK.Ru f b
def sp(f fn b:Int):Prop×List D:=(0<=b/\b<18446744073709551616,[.s (.sc (.int .i64 (kG.zW f b))),.s (.sc (.int .i64 (tY f fn b)))])
theorem spec:oP E f71 aE (pN .i64) (pN .i64) (pN .u64) sp:=by
 intro f fn b h;refine(start f fn b).trans ((gP h).trans ?_);unfold sp tY;dsimp only
 by_cases h1:fn<1
 ·rw[aQ h1,if_pos h1]
 ·rw[aL h1,if_neg h1]
  by_cases h2:6<fn
  ·rw[aQ h2,if_pos h2]
  ·rw[aL h2,if_neg h2]
def aJ:dO:=orc3 (pN .i64) (pN .i64) (pN .u64) sp
theorem ok:OK 71 aJ:=(fA E aE (aA kG.ok aD) func71).yM rfl spec
end gZ
end W
namespace W.Ziv
open Go AI M W W.aMU
structure Ns(f fn b:Int):Prop where
 fin:Fin f b
 f1:1<=fn
 f6:fn<=6
 ex:4<=fn->(fF.Bp fn (fR.nW f b)).2.2=false
theorem aQZ{f b:Int}(hf:f=32\/f=64)(hb:0<=b/\b<18446744073709551616)(hp:cS.fO f b=true):b<2*sg f/\kG.zW f b=(if b%sg f=0 then 0 else if b%sg f<cG.kI (aI.fS f)then 1 else if b%sg f<mJ.rJ (Hx.Ir f)then 2 else if b%sg f=mJ.rJ (Hx.Ir f)then 3 else 4):=by
 obtain⟨e1,e2⟩:=aRT hf;constructor
 ·unfold cS.fO at hp;rcases hf with rfl |rfl
  ·rw[Bool.or_eq_true,decide_eq_true_eq,decide_eq_true_eq]at hp;have:sg 32=2147483648:=rfl;omega
  ·have:sg 64=9223372036854775808:=rfl;omega
 ·unfold kG.zW oK.aUC;rw[show mP.Cp f=true from decide_eq_true hf,hp,bXT,cond_true,e1];unfold fB.fW;rw[e2]
theorem Zh{f fn b:Int}(h:gZ.tY f fn b=0):(f=32\/f=64)/\cS.fO f b=true/\1<=fn/\fn<=6:=by
 unfold gZ.tY at h;split at h
 ·omega
 ·split at h
  ·omega
  ·unfold oK.Ru mP.Cp at h
   by_cases hf:f=32\/f=64
   ·rw[decide_eq_true hf,cond_true]at h;cases hp:cS.fO f b with
    |true=>exact⟨hf,rfl,by omega,by omega⟩
    |false=>rw[hp]at h;cases h
   ·rw[decide_eq_false hf]at h;cases h
theorem Up{f fn b:Int}(hb:0<=b/\b<18446744073709551616)(he:gZ.tY f fn b=0)(hs:(nN.Tv f fn b (kG.zW f b)).2=false):Ns f fn b:=by
 obtain⟨hf,hp,f1,f6⟩:=Zh he;obtain⟨aKN,hc⟩:=aQZ hf hb hp;obtain⟨e1,e2⟩:=aRT hf;have h0:=cDN b (show sg f≠0 by unfold sg;split <;> omega);have hi:=(aYS.aJM hf).2.1;rw[e2]at hi;unfold nN.Tv at hs;generalize kG.zW f b=cl at hc hs
 by_cases c0:b%sg f=0
 ·rw[if_pos c0]at hc;rw[aU,aU]at hs
  by_cases c4:4<=fn
  ·rw[if_pos c4,aYS.aQJ hf ⟨c4,f6⟩ hp (by rw[e1];exact c0)]at hs;cases hs
  ·rw[if_neg c4,if_pos hc]at hs;split at hs <;> cases hs
 ·rw[if_neg c0]at hc;have fin:b%sg f<mJ.rJ (Hx.Ir f):=by
   apply Classical.byContradiction;intro hn;rw[aU,if_neg hn]at hc
   by_cases c3:b%sg f=mJ.rJ (Hx.Ir f)
   ·rw[if_pos c3]at hc;rw[aU,if_pos hc]at hs;cases hs
   ·rw[if_neg c3]at hc;rw[if_pos hc]at hs;cases hs
  refine⟨⟨hf,⟨hb.1,aKN⟩,by omega,fin⟩,f1,f6,fun c4=>?_⟩;have ex:=aYS.aWA hf ⟨c4,f6⟩ hp (by rw[e1];omega) (by rw[e1,e2];exact fin);have bIQ:cl=1\/cl=2:=by
   split at hc
   ·exact .inl hc
   ·first |exact .inr hc | (rw[if_pos fin]at hc;exact .inr hc)
  rw[aU,aU,if_pos c4,ex]at hs;cases hx:(fF.Bp fn (fR.nW f b)).2.2 with
  |false=>rfl
  |true=>rw[hx,if_pos rfl]at hs;cases hs
theorem aNV{f b:Int}(h:Fin f b):Fin 64 (eI.xV f b)/\fR.nW 64 (eI.xV f b)=fR.nW f b:=by
 obtain⟨hf,hb,h1,h2⟩:=h;unfold eI.xV;rcases hf with rfl |rfl
 ·have Eu:sg 32=2147483648:=rfl;have i32:mJ.rJ (Hx.Ir 32)=2139095040:=rfl;rw[Eu]at hb h1 h2;rw[i32]at h2;obtain⟨_,w1,w2,w3,w4,w5⟩:=aYS.aNW hb.1 (by omega) h1 h2;rw[if_pos rfl];exact⟨⟨.inr rfl,⟨w1,w2⟩,w3,w4⟩,w5⟩
 ·rw[if_neg (by decide)];exact⟨⟨.inr rfl,hb,h1,h2⟩,rfl⟩
def vZ(fn x:Int):Rat:=if 4<=fn then vT fn x else vx fn x
structure aGB(s:(Int×Int)×(Int×Int))(V:Rat)(p:Int):Prop where
 pl:jJ s.1
 ph:jJ s.2
 lo:R.qz s.1<=V
 hi:V<=R.qz s.2
 wd:R.qz s.2-R.qz s.1<=R.pz (-p-1)*R.ab V
 v0:V≠0
theorem aGB.yV{s:(Int×Int)×(Int×Int)}{V:Rat}{p:Int}(h:aGB s V p):eQ (mM s.1 s.2):=xF h.pl h.ph (kV.2 (by have:=h.lo;have:=h.hi;grind))
theorem aOQ{p:Int}(hp:1<=p):R.pz (-p-1)<=1/4:=by
 have h1:=R.bV (show -p-1<=-2 by omega);have h2:R.pz (-2)*4=1:=by
  have:=R.fG 0 (n:=2) (c:=4) (by norm_cast);rwa [R.fQ]at this
 grind
theorem aGB.bFK{s:(Int×Int)×(Int×Int)}{V:Rat}{p:Int}(h:aGB s V p)(hp:1<=p):(0<V->0<R.qz s.1)/\(V<0->R.qz s.2<0):=by
 obtain⟨_,_,lo,hi,wd,v0⟩:=h;have q:=aOQ hp;have a0:=R.aM V;have m:=R.aF a0 (show 0<=1/4-R.pz (-p-1) by grind);have e:R.ab V*(1/4-R.pz (-p-1))=R.ab V/4-R.pz (-p-1)*R.ab V:=by grind
 rw[e]at m;generalize R.pz (-p-1)*R.ab V=W at *;constructor
 ·intro hV;rw[R.bG (bZY hV)]at m;grind
 ·intro hV;have:R.ab V=-V:=by unfold R.ab;rw[if_neg (by grind)]
  rw[this]at m;grind
theorem tZ{f fn b p:Int}(h:Ns f fn b)(hp:1<=p/\p<=66000):iZ.pre (eI.gV fn) fn (eI.xV f b) p/\aGB (iZ.enc (eI.gV fn) fn (eI.xV f b) p) (vZ fn (eI.xV f b)) p:=by
 obtain⟨⟨_,hb,h1,h2⟩,bAW⟩:=aNV h.fin;have ex:=h.ex;rw[<-bAW]at ex;generalize eI.xV f b=x at *;have hx:0<=x/\x<18446744073709551616:=hb;have h1:0<x%9223372036854775808:=h1;have h2:x%9223372036854775808<9218868437227405312:=h2;have f1:=h.f1;have f6:=h.f6;unfold iZ.pre iZ.enc eI.gV vZ
 by_cases c4:4<=fn
 ·rw[if_pos c4,if_pos c4];have ex:=ex c4;have h4:fn=4\/fn=5\/fn=6:=by omega
  have hf:cA.jB 64 x=true:=decide_eq_true h2;have hodd:=aYS.aPA (f:=64) (.inr rfl) hx.1 h1;have xB:rP.aWB fn x=false:=by
   unfold rP.aWB;rw[ex,beq_eq_false_iff_ne.2 (show(fR.nW 64 x).1≠0 by omega)];rfl
  have pB:rP.aRZ fn x=false:=by unfold rP.aRZ;rw[ex,Bool.and_false,cAA]
  have N:=aHI (k:=cV.zC (cV.pS x)) (rP.aIZ hx.1 hf h4 xB) hp h4;rw[if_neg (by decide)];refine⟨.inr ⟨rfl,⟨hx,h4,hp,hf⟩,pB⟩,?_⟩;unfold rP.aRP;rw[xB,cond_false];have m0:=N.bx.m0;have lo:=N.bx.lo;have hi:=N.bx.hi;exact⟨N.bx.pl,N.bx.ph,by unfold vT;grind,by unfold vT;grind,N.bx.wd,N.v0⟩
 ·rw[if_neg c4,if_neg c4,if_pos rfl];have c:eZ.Tj fn x p=0:=by rw[aHC,aU,aU,aU,aU,if_pos h2]
  obtain⟨hr,hf,_,z⟩:=aOL hx c (by omega);refine⟨.inl ⟨rfl,hx,c⟩,?_⟩;rw[aLH c z];have N:=aWF (p:=p) hr hf hp;have m0:=N.bx.m0;have lo:=N.bx.lo;have hi:=N.bx.hi;have wd:=N.bx.wd;have pm:=R.bV (show -p-8<=-p-1 by omega);have mm:=R.aF (R.aM (R.fv fn (R.qz (aZ.qM x)) (kx x))) (show 0<=R.pz (-p-1)-R.pz (-p-8) by grind);exact⟨N.bx.pl,N.bx.ph,by unfold vx;grind,by unfold vx;grind,by unfold vx;grind,N.v0⟩
end W.Ziv
namespace AI
open Go Go.RowKit
abbrev O0:Nat->Prop:=fun _=>False
theorem Kq{w w':World}(h:Below w.heap.size w w'):gY O0 w O0 w':=⟨h.size,fun b hb _=>⟨h.block b hb,id⟩⟩
theorem uO{G:Nat->Option (IntKind×List Int)}{w w':World}(h:GlobOk G O0 w)(hb:Below w.heap.size w w'):GlobOk G O0 w':=fun g k ns e=>by
 obtain⟨h1,_,h3⟩:=h g k ns e;exact⟨Nat.lt_of_lt_of_le h1 hb.size,id,h3.later (Kq hb)⟩
theorem Mc{Y:Nat->Prop}{w:World}:gY Y w O0 w:=⟨bUR _,fun _ _ _=>⟨rfl,id⟩⟩
theorem aEY{G:Nat->Option (IntKind×List Int)}{Y:Nat->Prop}{w:World}(h:GlobOk G Y w):GlobOk G O0 w:=fun g k ns e=>by
 obtain⟨h1,_,h3⟩:=h g k ns e;exact⟨h1,id,h3.later Mc⟩
theorem Ly{P:Program}{G:Nat->Option (IntKind×List Int)}{f:FuncId}{o:dO}(h:lA P G f o){ds rs:List D}{g:Prop}(e:o ds=some (g,rs))(hg:g){w:World}(hG:GlobOk G O0 w){vs:List Value}(hl:ds.length=vs.length)
  (hd:∀(i:Nat) (d:D) (v:Value),ds[i]?=some d->vs[i]?=some v->lL O0 w d v) :
  Calls P f vs.toArray w fun e w'=>∃tI,e=.returned (resV tI)/\Below w.heap.size w w'/\Sw O0 w.heap.size w' rs tI :=
 (h ds g rs e hg).1 O0 w vs (fun _ hb=>hb.elim) hG hl hd
def Mv(v:Value):D:=.s (.sc v)
theorem Lx{P:Program}{G:Nat->Option (IntKind×List Int)}{f:FuncId}{o:dO}(h:lA P G f o){xs ys:List Value}{g:Prop}(e:o (xs.map Mv)=some (g,ys.map Mv))(hg:g){w:World}(hG:GlobOk G O0 w)(hx:∀x∈xs,x.oneCell'=true) :
  Calls P f xs.toArray w fun e w'=>e=.returned (resV ys)/\Below w.heap.size w w':=by
 refine(Ly h e hg hG (vs:=xs) (by simp) (fun i d v hd hv=>?_)).mono ?_
 ·simp only[bUV,Option.map_eq_some_iff]at hd;obtain⟨x,aSK,rfl⟩:=hd;rw[hv]at aSK;cases aSK;exact⟨rfl,hx v (List.mem_of_getElem? hv)⟩
 ·rintro e w' ⟨tI,rfl,hb,g,aKD,-,aGP⟩;refine⟨?_,hb⟩;congr 2;apply bYQ;intro i;have aKD:ys.length=tI.length:=by simpa using aKD
  cases hi:tI[i]? with
  |none =>
   have:tI.length<=i:=List.getElem?_eq_none_iff.1 hi;exact(List.getElem?_eq_none_iff.2 (by omega)).symm
  |some v =>
   have jL:i<ys.length:=by rw[aKD];exact(List.getElem?_eq_some_iff.1 hi).1
   have hy:ys[i]?=some ys[i]:=bVI jL;have:=aGP i (Mv ys[i]) v (by simp[hy]) hi;rw[hy,this.1]
structure Mj(w:World)(n1:Bool)(l1:List Int)(e1:Int)(n2:Bool)(l2:List Int)(e2:Int)(s1 s2:Value):Prop where
 a:nT O0 w (.ints .u64 l1) s1
 b:nT O0 w (.ints .u64 l2) s2
theorem Mj.later{w w':World}{n1 n2:Bool}{l1 l2:List Int}{e1 e2:Int}{s1 s2:Value}(h:Mj w n1 l1 e1 n2 l2 e2 s1 s2)(hb:Below w.heap.size w w'):Mj w' n1 l1 e1 n2 l2 e2 s1 s2 :=
 ⟨h.a.later (Kq hb),h.b.later (Kq hb)⟩
theorem Mj.rep{w:World}{n1 n2:Bool}{l1 l2:List Int}{e1 e2:Int}{s1 s2:Value}(h:Mj w n1 l1 e1 n2 l2 e2 s1 s2):lL O0 w (.agg [.sc (.bool n1),.ints .u64 l1,.sc (.int .i64 e1),.sc (.bool n2),.ints .u64 l2,.sc (.int .i64 e2)]) (.agg #[.bool n1,s1,.int .i64 e1,.bool n2,s2,.int .i64 e2]):=by
 refine⟨_,rfl,rfl,fun i s u hs hu=>?_⟩
 match i with
 |0=>cases hs;cases hu;exact⟨rfl,rfl⟩
 |1=>cases hs;cases hu;exact h.a
 |2=>cases hs;cases hu;exact⟨rfl,rfl⟩
 |3=>cases hs;cases hu;exact⟨rfl,rfl⟩
 |4=>cases hs;cases hu;exact h.b
 |5=>cases hs;cases hu;exact⟨rfl,rfl⟩
 |i+6=>simp at hs
theorem Vv{P:Program}{G:Nat->Option (IntKind×List Int)}{f:FuncId}{xs ys:List Value}{rs:List D}(h:∀w,GlobOk G O0 w->Calls P f xs.toArray w fun e w'=>e=.returned (resV ys)/\Below w.heap.size w w')(hl:rs.length=ys.length)
  (hr:∀(i:Nat) (d:D) (v:Value),rs[i]?=some d->ys[i]?=some v->kB d=false/\∀(Y:Nat->Prop) (w:World),lL Y w d v):Contract P G f (xs.map Mv) rs:=by
 intro Y w vs hY hG hlen bAF;have e:vs=xs:=by
  apply bYQ;intro i;have hlen:xs.length=vs.length:=by simpa using hlen
  cases hi:vs[i]? with
  |none =>
   have:vs.length<=i:=List.getElem?_eq_none_iff.1 hi;exact(List.getElem?_eq_none_iff.2 (by omega)).symm
  |some v =>
   have jL:i<xs.length:=by rw[hlen];exact(List.getElem?_eq_some_iff.1 hi).1
   have hx:xs[i]?=some xs[i]:=bVI jL;have:=bAF i (Mv xs[i]) v (by simp[hx]) hi;rw[hx,this.1]
 subst e;refine(h w (aEY hG)).mono ?_;rintro e w' ⟨rfl,hb⟩;refine⟨ys,rfl,hb,fun _=>0,hl,fun i j d d' hd _ ho=>?_,fun i d v hd hv=>?_⟩
 ·obtain⟨v,hv⟩:=bB (l:=ys) (i:=i) (by have:=aT hd;omega);rw[(hr i d v hd hv).1]at ho;cases ho
 ·obtain⟨h1,h2⟩:=hr i d v hd hv;cases d with
  |own=>cases h1
  |_=>exact h2 _ _
theorem bKD{Y:Nat->Prop}{w:World}{x y z:Value}(hx:x.oneCell'=true)(hy:y.oneCell'=true)(hz:z.oneCell'=true):lL Y w (.agg [.sc x,.sc y,.sc z]) (.agg #[x,y,z]):=by
 refine⟨_,rfl,rfl,fun i s u hs hu=>?_⟩
 match i with
 |0=>cases hs;cases hu;exact⟨rfl,hx⟩
 |1=>cases hs;cases hu;exact⟨rfl,hy⟩
 |2=>cases hs;cases hu;exact⟨rfl,hz⟩
 |i+3=>simp at hs
theorem aOV{P:Program}{G:Nat->Option (IntKind×List Int)}{f:FuncId}{α β γ δ ε:Type}{p:kW α}{q:kW β}{r:kW γ}{s:kW δ}{t:kW ε}{sp:α->β->γ->δ->ε->Prop×List D}(hb:pK P f)
  (h:∀a b c d e,(sp a b c d e).1->Contract P G f [p.put a,q.put b,r.put c,s.put d,t.put e] (sp a b c d e).2):lA P G f (orc5 p q r s t sp):=by
 intro ds g rs ho hg;unfold orc5 at ho;split at ho
 ·rename_i a1 a2 a3 a4 a5;split at ho
  ·rename_i h1 h2 h3 h4 h5;have e:=Option.some.inj ho;have c:=(h _ _ _ _ _ (by rw[e];exact hg)).of (ds:=[a1,a2,a3,a4,a5]) rfl (fun i d d' hd Bu Y w v hr=>by
    match i with
    |0=>cases hd;cases Bu;exact p.le h1 Y w v hr
    |1=>cases hd;cases Bu;exact q.le h2 Y w v hr
    |2=>cases hd;cases Bu;exact r.le h3 Y w v hr
    |3=>cases hd;cases Bu;exact s.le h4 Y w v hr
    |4=>cases hd;cases Bu;exact t.le h5 Y w v hr
    |i+5=>simp at hd)
   rw[e]at c;exact⟨c,hb⟩
  ·cases ho
 ·cases ho
end AI
namespace W
open Go AI M
namespace iV
def E:=mE [] 16 [] [] []
def aE:=bd f75
theorem aX:Nk E aE:=nk
theorem start a b:aH E f75 aE [D.s (sc (int i64 a)),D.s (sc (int i64 b))]=letI A:=some [D.s (sc (bool false))];aB (decide (1<=a)) (aB (decide (a<=b)) (some [D.s (sc (bool (decide (b<=66000))))]) A) A:=eJ aX
def Fy(a b:Int):Bool:=decide (1<=a/\a<=b/\b<=66000)
def sp(a b:Int):Prop×List D:=(True,[.s (.sc (.bool (Fy a b)))])
theorem spec:gU E f75 aE (pN .i64) (pN .i64) sp:=by
 intro a b h;refine(start a b).trans ?_;unfold sp Fy;dsimp only
 by_cases h1:1<=a
 ·rw[aQ h1]
  by_cases h2:a<=b
  ·rw[aQ h2]
   by_cases h3:b<=66000
   ·rw[decide_eq_true h3,decide_eq_true ⟨h1,h2,h3⟩]
   ·rw[decide_eq_false h3,decide_eq_false (by omega)]
  ·rw[aL h2,decide_eq_false (by omega)]
 ·rw[aL h1,decide_eq_false (by omega)]
def aJ:dO:=orc2 (pN .i64) (pN .i64) sp
theorem ok:OK 75 aJ:=(fA E aE aD func75).mV rfl spec
end iV
namespace rD
def E:=mE [(52,Hx.aJ),(67,uU.aJ),(15,jG.aJ)] 40 [26] [] []
def aE:=bd f127
theorem aX:Nk E aE:=nk
theorem start a b c d e f g:aH E f127 aE [D.s (sc (int i64 a)),D.agg [sc (bool b),ints u64 c,sc (int i64 d),sc (bool e),ints u64 f,sc (int i64 g)]]=letI A:=Hx.Ir a;aO True (aC A.snd.fst fun h=>aC A.snd.snd fun i=>aB (A.fst==0&&(h==0&&(i==0&&true))) (some [D.s (sc (int u64 0)),D.s (sc (bool false)),D.s (sc (int i64 1))]) (aO (eQ (b,c,d,e,f,g)) (aO ((a=32\/a=64)/\aP (b,c,d)) (aC (jG.kR a (dv (b,c,d))) fun j=>aO ((a=32\/a=64)/\aP (e,f,g)) (aC (jG.kR a (dv (e,f,g))) fun k=>aB (j !=k) (some [D.s (sc (int u64 0)),D.s (sc (bool false)),D.s (sc (int i64 0))]) (some [D.s (sc (int u64 j)),D.s (sc (bool true)),D.s (sc (int i64 0))])))))):=eJ aX
def aNR(f:Int)(s:(Int×Int)×(Int×Int)):Int×Bool:=if jG.kR f s.1=jG.kR f s.2 then(jG.kR f s.1,true)else(0,false)
def sp(f:Int)(s:wW):Prop×List D:=((f=32\/f=64)/\eQ s,[.s (.sc (.int .u64 (aNR f (dv (gW s),dv (gX s))).1)),.s (.sc (.bool (aNR f (dv (gW s),dv (gX s))).2)),.s (.sc (.int .i64 0))])
theorem spec:gU E f127 aE (pN .i64) yH sp:=by
 rintro f s ⟨hf,hs⟩;refine(start f s.1 s.2.1 s.2.2.1 s.2.2.2.1 s.2.2.2.2.1 s.2.2.2.2.2).trans ?_;have h0:((Hx.Ir f).1==0)=false:=by rcases hf with rfl |rfl <;> rfl
 rw[gP trivial,aG,aG,h0,cAA,bF,gP hs,gP ⟨hf,hs.1⟩,aG,gP ⟨hf,hs.2.1⟩,aG];unfold sp aNR;dsimp only;show aB (jG.kR f (dv (gW s)) !=jG.kR f (dv (gX s))) _ _=_
 by_cases c:jG.kR f (dv (gW s))=jG.kR f (dv (gX s))
 ·rw[if_pos c,gE c];rfl
 ·rw[if_neg c,oI c]
def aJ:dO:=orc2 (pN .i64) yH sp
theorem ok:OK 127 aJ:=(fA E aE (aA Hx.ok (aA uU.ok (aA jG.ok aD))) func127).mV rfl spec
end rD
namespace vJ
def E:=mE [(126,iZ.aJ),(127,rD.aJ)] 33 [23] [] []
def aE:=bd f74
theorem aX:Nk E aE:=nk
theorem start f g fn x p:aH E f74 aE [D.agg [sc (int i64 f),S.Sd (126:FuncId) [Value.func (Fn.func g) #[] #[],int i64 fn,int u64 x]],D.s (sc (int i64 p))]=letI A:=iZ.enc g fn x p;aO (iZ.pre g fn x p) (aC (isNeg A.fst.fst) fun a=>aC (M6.dg A.fst.fst.natAbs) fun b=>aC A.fst.snd fun c=>aC (isNeg A.snd.fst) fun d=>aC (M6.dg A.snd.fst.natAbs) fun e=>aC A.snd.snd fun h=>letI C:=(a,b,c,d,e,h);letI B:=rD.aNR f (dv (gW C),dv (gX C));aO ((f=32\/f=64)/\eQ C) (aC B.fst fun i=>aC B.snd fun j=>aB j (some [D.s (sc (int u64 i)),D.s (sc (bool true))]) (some [D.s (sc (int u64 i)),D.s (sc (bool false))]))):=eJ aX
def dec(f:Int)(g:Nat)(fn x p:Int):Int×Bool:=rD.aNR f (iZ.enc g fn x p)
def sp(q:Int×Nat×Int×Int)(p:Int):Prop×List D:=(iZ.pre q.2.1 q.2.2.1 q.2.2.2 p/\(q.1=32\/q.1=64)/\eQ (mM (iZ.enc q.2.1 q.2.2.1 q.2.2.2 p).1 (iZ.enc q.2.1 q.2.2.1 q.2.2.2 p).2),[.s (.sc (.int .u64 (dec q.1 q.2.1 q.2.2.1 q.2.2.2 p).1)),.s (.sc (.bool (dec q.1 q.2.1 q.2.2.1 q.2.2.2 p).2))])
theorem fold(a b:Int×Int):(isNeg a.1,M6.dg a.1.natAbs,a.2,isNeg b.1,M6.dg b.1.natAbs,b.2)=mM a b:=rfl
theorem spec:gU E f74 aE (pG (.pair (sN .i64) (aZE 126 (lc vF (lc (vN .i64) (l1 (vN .u64))))))) (pN .i64) sp:=by
 intro q p h;obtain⟨f,g,fn,x⟩:=q;obtain⟨h1,h2,h3⟩:=h;refine(start f g fn x p).trans ?_;have h1:iZ.pre g fn x p:=h1;unfold sp dec;dsimp only at *;rw[gP h1,aG,aG,aG,aG,aG,aG,fold,gP ⟨h2,h3⟩,oL,oM,aG,aG];show aB (rD.aNR f (iZ.enc g fn x p)).2 _ _=_;cases (rD.aNR f (iZ.enc g fn x p)).2 <;> rfl
def aJ:dO:=orc2 (pG (.pair (sN .i64) (aZE 126 (lc vF (lc (vN .i64) (l1 (vN .u64))))))) (pN .i64) sp
theorem ok:OK 74 aJ:=(fA E aE (aA iZ.ok (aA rD.ok aD)) func74).mV rfl spec
end vJ
namespace cO
def E:=mE [(71,gZ.aJ),(72,nN.aJ),(73,eI.aJ),(74,vJ.aJ)] 54 [21,38,49] [(4,[0,1,2,3,11,12])] [4]
def aE:=bd f27
theorem aX:Nk E aE:=nk
def J4 a b c d e f:=mT E f27 aE 4 [cK a,cK b,dG c,cK d,cK e,cK f]
theorem start a b c d:aH E f27 aE [D.s (sc (int i64 a)),D.s (sc (int i64 b)),D.s (sc (int u64 c)),D.s (sc (int i64 d))]=letI A:=cO.J4 a b c d (kG.zW a c) 1;aO (0<=c/\c<18446744073709551616) (aB (decide (d<1)) A (aB (decide (66000<d)) A (cO.J4 a b c d (kG.zW a c) (gZ.tY a b c)))):=eJ aX
theorem Hn a b c d e f:J4 a b c d e f=letI F:=nN.Tv a b c e;letI A:=(a,eI.gV b,b,eI.xV a c);letI C:=iZ.enc A.snd.fst A.snd.snd.fst A.snd.snd.snd d;letI B:=vJ.dec A.fst A.snd.fst A.snd.snd.fst A.snd.snd.snd d;aB (f !=0) (some [D.s (sc (int u64 0)),D.s (sc (bool false)),D.s (sc (int i64 f))]) (aO ((a=32\/a=64)/\0<=c/\c<18446744073709551616) (aC F.fst fun g=>aC F.snd fun h=>aB h (some [D.s (sc (int u64 g)),D.s (sc (bool true)),D.s (sc (int i64 0))]) (aO (0<=c/\c<18446744073709551616) (aO (iZ.pre (eI.gV b) b (eI.xV a c) d/\(a=32\/a=64)/\eQ (mM C.fst C.snd)) (aC B.fst fun i=>aC B.snd fun j=>some [D.s (sc (int u64 i)),D.s (sc (bool j)),D.s (sc (int i64 0))]))))):=cJ aX
def yO(f fn b p:Int):Int×Bool:=vJ.dec f (eI.gV fn) fn (eI.xV f b) p
def aQM(f fn b p:Int):Int:=if 1<=p/\p<=66000 then gZ.tY f fn b else 1
def Qp(f fn b:Int):Int×Bool:=nN.Tv f fn b (kG.zW f b)
def aFQ(f fn b p:Int):Int×Bool:=if aQM f fn b p≠0 then(0,false)else bif (Qp f fn b).2 then((Qp f fn b).1,true)else yO f fn b p
def sp(f fn b p:Int):Prop×List D:=(0<=b/\b<18446744073709551616,[.s (.sc (.int .u64 (aFQ f fn b p).1)),.s (.sc (.bool (aFQ f fn b p).2)),.s (.sc (.int .i64 (aQM f fn b p)))])
theorem spec:Of E f27 aE (pN .i64) (pN .i64) (pN .u64) (pN .i64) sp:=by
 intro f fn b p h;have hb:0<=b/\b<18446744073709551616:=h;refine(start f fn b p).trans ((gP hb).trans ?_);have j1:∀e:Int,e≠0->J4 f fn b p (kG.zW f b) e=some [.s (.sc (.int .u64 0)),.s (.sc (.bool false)),.s (.sc (.int .i64 e))]:=fun e he=>by rw[Hn,oI he]
 unfold sp aFQ aQM;dsimp only
 by_cases hp:1<=p/\p<=66000
 ·rw[aL,aL,if_pos hp]
  by_cases he:gZ.tY f fn b=0
  ·obtain⟨hf,_⟩:=Ziv.Zh he;rw[aU,Hn,he,gE rfl,gP ⟨hf,hb⟩,aG,aG];unfold Qp;cases hs:(nN.Tv f fn b (kG.zW f b)).2 with
   |true=>rfl
   |false =>
    obtain⟨h1,h2⟩:=Ziv.tZ (Ziv.Up hb he hs) hp;rw[bF,gP hb,gP ⟨h1,hf,h2.yV⟩,aG,aG];rfl
  ·rw[j1 _ he,if_pos he]
 ·rw[if_neg hp,aW]
  by_cases zO:p<1
  ·rw[aQ zO,j1 _ (by decide)]
  ·rw[aL zO,aQ,j1 _ (by decide)]
def aJ:dO:=orc4 (pN .i64) (pN .i64) (pN .u64) (pN .i64) sp
theorem ok:OK 27 aJ:=(fA E aE (aA gZ.ok (aA nN.ok (aA eI.ok (aA vJ.ok aD)))) func27).aNM rfl spec
end cO
namespace IvLadder
open Go.RowKit Go.Shelf
attribute [local go_sem] Oper.semAt_some
def rungsF:Nat->Int->Int->List Int
 |0,_,_=>[]
 |n+1,p,l=>if p<=l then p :: rungsF n (p*2) l else []
abbrev Wv:={ x:Int // 1<=x/\x<=66000 }
theorem zB{k:Nat}{p l:Int}(h:p<=l):rungsF (k+1) p l=p :: rungsF k (p*2) l:=by
 rw[rungsF,if_pos h]
set_option maxRecDepth 100000 in
set_option maxHeartbeats 2000000 in
theorem make (w:World) (a b:Int):Calls prog 70 #[.int .i64 a,.int .i64 b] w fun e w'=>e=.returned (.func (.func 124) #[] #[.pointer (some ⟨w.heap.size,0,none⟩),.pointer (some ⟨w.heap.size+1,0,none⟩)])/\w'=(w.alloc (.cells #[.int .i64 a] 3)).alloc (.cells #[.int .i64 b] 3):=by
 refine(callsIn_wide (n:=1)).1 ?_;refine callsIn_of_wp func70 rfl trivial ?_ rfl;simp only[Tryz.ntmps70,bWH,bYC,bYD,cJK,cJL,Array.replicate_succ,Array.replicate_zero,cJM,cJN,bYU,bWK]
 gi_wp2
 go_ret
 exact⟨by simp,rfl⟩
set_option maxRecDepth 100000 in
set_option maxHeartbeats 4000000 in
theorem each (F:Fence) (n:Nat) (hF:F.fn 124) (bMY:F.fn 75) (bHD:F.round=none) (hn:1<=n) (l B n₀:Nat) (a b:Int) (ha:1<=a/\a<=66000) (hb:b<=66000) (aSX:a<=b)
  (W:World) (Yx:∀w',Below W.heap.size W w'->CallsIn F (n-1) prog 75 #[.int .i64 a,.int .i64 b] w' fun e w2=>e=.returned (.bool true)/\Below w'.heap.size w' w2) (J Jx:List Wv->World->Prop)
  (hJ:∀pre W',J pre W->Below W.heap.size W W'->J pre W')
  (hY:∀pre x W,J pre W->pre.length<17->YieldAt F (n-1) prog l #[.int .i64 x.1] W fun e W' =>
   (e=.returned (.bool true)/\J (pre ++ [x]) W'/\Below n₀ W W')\/(e=.returned (.bool false)/\Jx (pre ++ [x]) W'))
  (hB:B+1<n₀) (Bn:n₀<=W.heap.size) (h1:W.cell? ⟨B,0,none⟩=some (.int .i64 a)) (h2:W.cell? ⟨B+1,0,none⟩=some (.int .i64 b)) (h0:J [] W) :
  CallsIn F n prog 124 #[.func (.yield l) #[] #[],.pointer (some ⟨B,0,none⟩),.pointer (some ⟨B+1,0,none⟩)] W fun e W'=>(∃v,e=.returned v) /\
   ((∃ys:List Wv,ys.map (·.1)=rungsF 17 a b/\J ys W')\/(∃pre:List Wv,pre.map (·.1) <+: rungsF 17 a b/\Jx pre W')):=by
 refine callsIn_of_wp func124 rfl hF ?_ bHD;simp only[Tryz.ntmps124,bWH,bYC,bYD,cJK,cJL,Array.replicate_succ,Array.replicate_zero,cJM,cJN,bYU,bWK]
 gi_wp2_with (gi_at_call 75;refine(Yx _ (Below.refl _ _)).mono ?_;rintro e w1 ⟨rfl,vU⟩;have c1:w1.cell? ⟨B,0,none⟩=some (.int .i64 a):=(vU.cell (p:=⟨B,0,none⟩) (show B<_ by omega)).trans h1;have c2:w1.cell? ⟨B+1,0,none⟩=some (.int .i64 b):=(vU.cell (p:=⟨B+1,0,none⟩) (show B+1<_ by omega)).trans h2)
 gi_loopw [4] (fun v wr=>∃(k:Nat) (pre:List Wv) (p:Int),v=.int .i64 p/\(1<=p/\p<=132000)/\rungsF 17 a b=pre.map (·.1) ++ rungsF k p b/\pre.length+k=17/\b<p*2^k/\J pre wr/\Below n₀ W wr)
  (fun v _=>(b+1-intOf v).toNat)
 case atStart=>exact⟨17,[],a,rfl,⟨ha.1,by omega⟩,rfl,rfl,(by show b<a*131072;omega),hJ _ _ h0 vU,vU.mono Bn⟩
 case round =>
  obtain⟨k,pre,p,rfl,hp,hr,hk,aVB,bMX,aGT⟩:=hrel;have c3:wr.cell? ⟨B+1,0,none⟩=some (.int .i64 b):=(aGT.cell (p:=⟨B+1,0,none⟩) (show B+1<_ by omega)).trans h2
  by_cases hle:p<=b
  ·obtain⟨fn,tmps,assign,body,hy,hR⟩:=hY pre ⟨p,hp.1,by omega⟩ wr bMX (by
    cases k with
    |zero=>simp at aVB;omega
    |succ k=>omega)
   obtain⟨k,rfl⟩:∃j,k=j+1:=by
    cases k with
    |zero=>simp at aVB;omega
    |succ k=>exact⟨k,rfl⟩
   rw[zB hle]at hr
   gi_wp2
   refine hR.mono ?_;rintro e W3 (⟨rfl,bTE,bRD⟩ |⟨rfl,bJF⟩)
   ·gi_wp2
    go_roundw
    case rel =>
     exact⟨k,pre ++ [⟨p,hp.1,by omega⟩],p*2,rfl,⟨by omega,by omega⟩,by simp[hr],by simp;omega,by rw[Int.pow_succ]at aVB;rw[cAY,Int.mul_comm 2];exact aVB,bTE,aGT.trans bRD⟩
    case measure=>simp[intOf];omega
   ·gi_wp2
    refine bodyPost_ret (results_none rfl _ _ _) rfl ?_;exact⟨⟨_,rfl⟩,.inr ⟨pre ++ [⟨p,hp.1,by omega⟩],⟨rungsF k (p*2) b,by simp[hr]⟩,bJF⟩⟩
  ·have k3:rungsF k p b=[]:=by cases k with
    |zero=>rfl
    |succ k=>unfold rungsF;rw[if_neg hle]
   rw[k3,List.append_nil]at hr
   gi_wp2
   go_end0
   exact⟨⟨_,rfl⟩,.inl ⟨pre,rfl,bMX⟩⟩
theorem stops(F:Fence)(n:Nat)(hF:F.fn 124)(bMY:F.fn 75)(bHD:F.round=none)(hn:1<=n)(B n₀:Nat)(a b:Int)(ha:1<=a/\a<=66000)(hb:b<=66000)(aSX:a<=b)(w:World)
  (Yx:∀w',Below w.heap.size w w'->CallsIn F (n-1) prog 75 #[.int .i64 a,.int .i64 b] w' fun e w2=>e=.returned (.bool true)/\Below w'.heap.size w' w2) (hB:B+1<n₀) (Bn:n₀<=w.heap.size) (h1:w.cell? ⟨B,0,none⟩=some (.int .i64 a)) (h2:w.cell? ⟨B+1,0,none⟩=some (.int .i64 b)) :
  SeqStopsK F n prog 124 #[.pointer (some ⟨B,0,none⟩),.pointer (some ⟨B+1,0,none⟩)] (fun x:Wv=>#[Value.int .i64 x.1]) (Below n₀) (fun ys=>ys.map (·.1)=rungsF 17 a b) (fun pre=>pre.map (·.1) <+: rungsF 17 a b) 17 w:=fun l J Jx W hW hJ _ hY h0 =>
 each F n hF bMY bHD hn l B n₀ a b ha hb aSX W (fun w2 bLK=>Yx w2 (hW.trans (bLK.mono hW.size))) J Jx (fun pre W' hp Tn=>hJ pre _ _ none hp ⟨Tn.os,Tn.tape,Tn.output,Tn.size,fun k hk _=>Tn.block k hk⟩ (fun r e=>by cases e)) hY hB (bVN Bn hW.size)
  ((hW.cell (p:=⟨B,0,none⟩) (show B<_ by omega)).trans h1) ((hW.cell (p:=⟨B+1,0,none⟩) (show B+1<_ by omega)).trans h2) h0
end IvLadder
namespace IvClimb
open Go.RowKit Go.Shelf
attribute [local go_sem] Oper.semAt_some
theorem one{W:World}{B:Nat}{v:Value}{t:TypeId}(h:W.heap[B]?=some (.cells #[v] t (0,0))):W.cell? ⟨B,0,none⟩=some v/\W.frozen? ⟨B,0,none⟩=false:=by
 constructor <;> simp[World.cell?,World.frozen?,h]
theorem three{W:World}{B:Nat}{u v x:Value}{t:TypeId}(h:W.heap[B]?=some (.cells #[u,v,x] t (0,0))):W.cell? ⟨B,0,none⟩=some u/\W.cell? ⟨B,1,none⟩=some v/\W.cell? ⟨B,2,none⟩=some x/\W.frozen? ⟨B,0,none⟩=false/\W.frozen? ⟨B,1,none⟩=false/\W.frozen? ⟨B,2,none⟩=false:=by
 refine⟨?_,?_,?_,?_,?_,?_⟩ <;> simp[World.cell?,World.frozen?,h]
theorem bGG(n:Nat){f fn b E:Int}(hb:0<=b/\b<18446744073709551616)(he:gZ.tY f fn b=E){w:World}(hG:GlobOk base.glob O0 w):∀w',Below w.heap.size w w'->CallsIn Fence.wide n prog 71 #[.int .i64 f,.int .i64 fn,.int .u64 b] w' fun e w2=>e=.returned (.tuple #[.int .i64 (kG.zW f b),.int .i64 E])/\Below w'.heap.size w' w2:=fun w' uX =>
 callsIn_wide.2 (by have c:=Lx gZ.ok (xs:=[.int .i64 f,.int .i64 fn,.int .u64 b]) (ys:=[.int .i64 (kG.zW f b),.int .i64 (gZ.tY f fn b)]) rfl hb (uO hG uX) (by simp[Value.oneCell']);rw[he]at c;exact c)
theorem bGF(n:Nat){s l:Int}{B:Bool}(hl:iV.Fy s l=B){w:World}(hG:GlobOk base.glob O0 w):∀w',Below w.heap.size w w'->CallsIn Fence.wide n prog 75 #[.int .i64 s,.int .i64 l] w' fun e w2=>e=.returned (.bool B)/\Below w'.heap.size w' w2:=fun w' uX =>
 callsIn_wide.2 (by have c:=Lx iV.ok (xs:=[.int .i64 s,.int .i64 l]) (ys:=[.bool (iV.Fy s l)]) rfl trivial (uO hG uX) (by simp[Value.oneCell']);rw[hl]at c;exact c)
theorem bLB(n:Nat){f fn b:Int}{B:Bool}(hb:0<=b/\b<18446744073709551616)(he:gZ.tY f fn b=0)(hs:(cO.Qp f fn b).2=B){w:World}(hG:GlobOk base.glob O0 w):∀w',Below w.heap.size w w'->CallsIn Fence.wide n prog 72 #[.int .i64 f,.int .i64 fn,.int .u64 b,.int .i64 (kG.zW f b)] w' fun e w2=>e=.returned (.tuple #[.int .u64 (cO.Qp f fn b).1,.bool B])/\Below w'.heap.size w' w2:=fun w' uX =>
 callsIn_wide.2 (by have c:=Lx nN.ok (xs:=[.int .i64 f,.int .i64 fn,.int .u64 b,.int .i64 (kG.zW f b)]) (ys:=[.int .u64 (cO.Qp f fn b).1,.bool (cO.Qp f fn b).2]) rfl ⟨(Ziv.Zh he).1,hb⟩ (uO hG uX) (by simp[Value.oneCell']);rw[hs]at c;exact c)
theorem opened(w:World):∃W2,(w.alloc (.cells #[.int .u64 0,.bool false,.int .i64 0] 62)).alloc (.cells #[.int .i64 0] 30)=W2/\Below w.heap.size w W2/\W2.heap.size=w.heap.size+2/\W2.heap[w.heap.size]?=some (.cells #[.int .u64 0,.bool false,.int .i64 0] 62 (0,0))/\W2.heap[w.heap.size+1]?=some (.cells #[.int .i64 0] 30 (0,0)):=by
 refine⟨_,rfl,((Below.refl _ w).alloc (bUR _) _).alloc (by simp) _,by simp,(Below.heap_alloc _ _ _ (by simp)).trans (World.alloc_heap_new w _),?_⟩;have:=World.alloc_heap_new (w.alloc (.cells #[.int .u64 0,.bool false,.int .i64 0] 62)) (.cells #[.int .i64 0] 30);simpa using this
set_option maxRecDepth 100000 in
set_option maxHeartbeats 4000000 in
theorem bad (f fn b s l:Int) (hb:0<=b/\b<18446744073709551616) (he:(if iV.Fy s l then gZ.tY f fn b else 1)≠0) {w:World} (hG:GlobOk base.glob O0 w):Calls prog 28 #[.int .i64 f,.int .i64 fn,.int .u64 b,.int .i64 s,.int .i64 l] w fun e w'=>e=.returned (.tuple #[.agg #[.int .u64 0,.bool false,.int .i64 0],.int .i64 (if iV.Fy s l then gZ.tY f fn b else 1)])/\Below w.heap.size w w':=by
 refine(callsIn_wide (n:=1)).1 ?_;refine callsIn_of_wp func28 rfl trivial ?_ rfl;simp only[Tryz.ntmps28,bWH,bYC,bYD,cJK,cJL,Array.replicate_succ,Array.replicate_zero,cJM,cJN,bYU,bWK];have aYO:=bGG 0 (f:=f) (fn:=fn) hb rfl hG;have aVU:=bGF 0 (s:=s) (l:=l) rfl hG;obtain⟨W2,bER,aCQ,z2,r1,r2⟩:=opened w;cases hl:iV.Fy s l with
 |true =>
  rw[hl,if_pos rfl]at he;rw[if_pos rfl];have zP:(gZ.tY f fn b==0)=false:=beq_eq_false_iff_ne.2 he
  gi_wp2_with (refine⟨trivial,?_⟩;first | (gi_at_call 71;refine(aYO _ aCQ).mono ?_;rintro e w3 ⟨rfl,Bo⟩;have aKS:Below w.heap.size w w3:=aCQ.trans (Bo.mono (by omega))) | (gi_at_call 75;refine(aVU _ aKS).mono ?_;rintro e w4 ⟨rfl,Vi⟩;have bGK:=Bo.size;have aQB:Below w.heap.size w w4:=aKS.trans (Vi.mono (by omega));obtain⟨c1,c2,c3,k1,k2,k3⟩:=three (((Vi.block _ (by omega)).trans (Bo.block _ (by omega))).trans r1);obtain⟨c4,k4⟩:=one (((Vi.block _ (by omega)).trans (Bo.block _ (by omega))).trans r2)))
  refine⟨rfl,.tuple #[.agg #[.int .u64 0,.bool false,.int .i64 0],.int .i64 (gZ.tY f fn b)],by simp[results,f28,go_sem,c1,c2,c3,c4],rfl,?_⟩;refine((((aQB.setCell ?_ _).setCell ?_ _).setCell ?_ _).setCell ?_ _) <;> first |exact bUR _ |exact cHR _
 |false =>
  rw[if_neg (by decide)]
  gi_wp2_with (refine⟨trivial,?_⟩;first | (gi_at_call 71;refine(aYO _ aCQ).mono ?_;rintro e w3 ⟨rfl,Bo⟩;have aKS:Below w.heap.size w w3:=aCQ.trans (Bo.mono (by omega))) | (gi_at_call 75;refine(aVU _ aKS).mono ?_;rintro e w4 ⟨rfl,Vi⟩;have bGK:=Bo.size;have aQB:Below w.heap.size w w4:=aKS.trans (Vi.mono (by omega));obtain⟨c1,c2,c3,k1,k2,k3⟩:=three (((Vi.block _ (by omega)).trans (Bo.block _ (by omega))).trans r1);obtain⟨c4,k4⟩:=one (((Vi.block _ (by omega)).trans (Bo.block _ (by omega))).trans r2)))
  refine⟨rfl,.tuple #[.agg #[.int .u64 0,.bool false,.int .i64 0],.int .i64 1],by simp[results,f28,go_sem,c1,c2,c3,c4],rfl,?_⟩;refine((((aQB.setCell ?_ _).setCell ?_ _).setCell ?_ _).setCell ?_ _) <;> first |exact bUR _ |exact cHR _
abbrev ptr(b o:Nat):Value:=.pointer (some ⟨b,o,none⟩)
structure aNS(fn x:Int)(g b1 o1 b2 o2 b3 o3:Nat)(W:World):Prop where
 c1:W.cell? ⟨b1,o1,none⟩=some (.func (.func g) #[] #[])
 c2:W.cell? ⟨b2,o2,none⟩=some (.int .i64 fn)
 c3:W.cell? ⟨b3,o3,none⟩=some (.int .u64 x)
theorem Uu{W:World}{b o:Nat}{v:Value}(h:W.cell? ⟨b,o,none⟩=some v):b<W.heap.size:=by
 obtain⟨ob,h1,_⟩:=cells_of_cell h;exact(Array.getElem?_eq_some_iff.1 h1).1
theorem aNS.rep{fn x:Int}{g b1 o1 b2 o2 b3 o3:Nat}{W:World}(h:aNS fn x g b1 o1 b2 o2 b3 o3 W):nT O0 W (.Sd 126 [.func (.func g) #[] #[],.int .i64 fn,.int .u64 x]) (.func (.func 126) #[] #[ptr b1 o1,ptr b2 o2,ptr b3 o3]):=by
 refine⟨[ptr b1 o1,ptr b2 o2,ptr b3 o3],rfl,rfl,fun i x p hx hp=>?_⟩
 match i with
 |0=>cases hx;cases hp;exact⟨rfl,b1,o1,rfl,Uu h.c1,id,h.c1⟩
 |1=>cases hx;cases hp;exact⟨rfl,b2,o2,rfl,Uu h.c2,id,h.c2⟩
 |2=>cases hx;cases hp;exact⟨rfl,b3,o3,rfl,Uu h.c3,id,h.c3⟩
 |i+3=>simp at hx
theorem aZK(f fn b:Int)(hb:0<=b/\b<18446744073709551616){w:World}(hG:GlobOk base.glob O0 w):Calls prog 73 #[.int .i64 f,.int .i64 fn,.int .u64 b] w fun e w'=>∃b1 o1 b2 o2 b3 o3,e=.returned (.agg #[.int .i64 f,.func (.func 126) #[] #[ptr b1 o1,ptr b2 o2,ptr b3 o3]])/\Below w.heap.size w w'/\aNS fn (eI.xV f b) (eI.gV fn) b1 o1 b2 o2 b3 o3 w':=by
 refine(Ly eI.ok (ds:=[Mv (.int .i64 f),Mv (.int .i64 fn),Mv (.int .u64 b)]) (vs:=[.int .i64 f,.int .i64 fn,.int .u64 b]) rfl hb hG rfl (fun i d v hd hv=>?_)).mono ?_
 ·match i with
  |0=>cases hd;cases hv;exact⟨rfl,rfl⟩
  |1=>cases hd;cases hv;exact⟨rfl,rfl⟩
  |2=>cases hd;cases hv;exact⟨rfl,rfl⟩
  |i+3=>simp at hd
 ·rintro e w' ⟨tI,rfl,Tn,g,aKD,-,aGP⟩
  match tI,aKD with
  | [v],_ =>
   have a1:lL _ w' (.agg [.sc (.int .i64 f),.Sd 126 [.func (.func (eI.gV fn)) #[] #[],.int .i64 fn,.int .u64 (eI.xV f b)]]) v:=aGP 0 _ v rfl rfl;obtain⟨arr,rfl,hl,hc⟩:=a1.later Mc;obtain⟨q1,q2,he⟩:∃q1 q2,arr.toList=[q1,q2]:=by
    match hh:arr.toList,hl with
    | [q1,q2],_=>exact⟨q1,q2,rfl⟩
   rw[he]at hc;have h0:=(hc 0 _ _ rfl rfl).1;obtain⟨ps,hv,Pd,Fz⟩:=hc 1 _ _ rfl rfl
   match ps,Pd with
   | [p1,p2,p3],_ =>
    obtain⟨_,b1,o1,rfl,_,_,k1⟩:=Fz 0 _ _ rfl rfl;obtain⟨_,b2,o2,rfl,_,_,k2⟩:=Fz 1 _ _ rfl rfl;obtain⟨_,b3,o3,rfl,_,_,k3⟩:=Fz 2 _ _ rfl rfl;refine⟨b1,o1,b2,o2,b3,o3,?_,Tn,k1,k2,k3⟩;have:arr=#[q1,q2]:=by rw[<-he]
    rw[this,h0,hv];rfl
theorem aQT(f fn x p:Int){g b1 o1 b2 o2 b3 o3:Nat}{w:World}(h:aNS fn x g b1 o1 b2 o2 b3 o3 w)(hp:(vJ.sp (f,g,fn,x) p).1)(hG:GlobOk base.glob O0 w):Calls prog 74 #[.agg #[.int .i64 f,.func (.func 126) #[] #[ptr b1 o1,ptr b2 o2,ptr b3 o3]],.int .i64 p] w fun e w'=>e=.returned (.tuple #[.int .u64 (vJ.dec f g fn x p).1,.bool (vJ.dec f g fn x p).2])/\Below w.heap.size w w':=by
 refine(Ly vJ.ok (ds:=[.agg [.sc (.int .i64 f),.Sd 126 [.func (.func g) #[] #[],.int .i64 fn,.int .u64 x]],Mv (.int .i64 p)]) (vs:=[.agg #[.int .i64 f,.func (.func 126) #[] #[ptr b1 o1,ptr b2 o2,ptr b3 o3]],.int .i64 p]) rfl hp hG rfl (fun i d v hd hv=>?_)).mono ?_
 ·match i with
  |0 =>
   cases hd;cases hv;refine⟨_,rfl,rfl,fun j s u hs hu=>?_⟩
   match j with
   |0=>cases hs;cases hu;exact⟨rfl,rfl⟩
   |1=>cases hs;cases hu;exact h.rep
   |j+2=>simp at hs
  |1=>cases hd;cases hv;exact⟨rfl,rfl⟩
  |i+2=>simp at hd
 ·rintro e w' ⟨tI,rfl,Tn,g',aKD,-,aGP⟩
  match tI,aKD with
  | [v1,v2],_ =>
   have a1:=aGP 0 _ v1 rfl rfl;have a2:=aGP 1 _ v2 rfl rfl;rw[a1.1,a2.1];exact⟨rfl,Tn⟩
set_option maxRecDepth 100000 in
set_option maxHeartbeats 4000000 in
theorem aOF (f fn b s l:Int) (hb:0<=b/\b<18446744073709551616) (hl:iV.Fy s l=true) (he:gZ.tY f fn b=0) (hs:(cO.Qp f fn b).2=true) {w:World} (hG:GlobOk base.glob O0 w):Calls prog 28 #[.int .i64 f,.int .i64 fn,.int .u64 b,.int .i64 s,.int .i64 l] w fun e w'=>e=.returned (.tuple #[.agg #[.int .u64 (cO.Qp f fn b).1,.bool true,.int .i64 0],.int .i64 0])/\Below w.heap.size w w':=by
 refine(callsIn_wide (n:=1)).1 ?_;refine callsIn_of_wp func28 rfl trivial ?_ rfl;simp only[Tryz.ntmps28,bWH,bYC,bYD,cJK,cJL,Array.replicate_succ,Array.replicate_zero,cJM,cJN,bYU,bWK];have aYO:=bGG 0 hb he hG;have aVU:=bGF 0 hl hG;have bJK:=bLB 0 hb he hs hG;obtain⟨W2,bER,aCQ,z2,r1,r2⟩:=opened w
 gi_wp2_with (refine⟨trivial,?_⟩;first
  | (gi_at_call 71;refine(aYO _ aCQ).mono ?_;rintro e w3 ⟨rfl,Bo⟩;have bPK:=Bo.size;have aKS:Below w.heap.size w w3:=aCQ.trans (Bo.mono (by omega)))
  | (gi_at_call 75;refine(aVU _ aKS).mono ?_;rintro e w4 ⟨rfl,Vi⟩;have bGK:=Vi.size;have aQB:Below w.heap.size w w4:=aKS.trans (Vi.mono (by omega)))
  | (gi_at_call 72;refine(bJK _ aQB).mono ?_;rintro e w5 ⟨rfl,aPY⟩;have bPJ:=aPY.size;have bEX:Below w.heap.size w w5:=aQB.trans (aPY.mono (by omega));obtain⟨c1,c2,c3,k1,k2,k3⟩:=three ((((aPY.block _ (by omega)).trans (Vi.block _ (by omega))).trans (Bo.block _ (by omega))).trans r1);obtain⟨c4,k4⟩:=one ((((aPY.block _ (by omega)).trans (Vi.block _ (by omega))).trans (Bo.block _ (by omega))).trans r2)))
 refine⟨rfl,.tuple #[.agg #[.int .u64 (cO.Qp f fn b).1,.bool true,.int .i64 0],.int .i64 0],by simp[results,f28,go_sem,c1,c2,c3,c4],rfl,?_⟩;refine((((bEX.setCell ?_ _).setCell ?_ _).setCell ?_ _).setCell ?_ _) <;> first |exact bUR _ |exact cHR _
def first(f fn b:Int):List Int->Option Int
 | []=>none
 |r :: rs=>bif (cO.yO f fn b r).2 then some r else first f fn b rs
def Od(f fn b s l:Int):Int×Bool×Int:=match first f fn b (IvLadder.rungsF 17 s l)with
 |some r=>((cO.yO f fn b r).1,true,r)
 |none=>(0,false,0)
theorem Ln{f fn b:Int}:∀{rs:List Int},(∀r∈rs,(cO.yO f fn b r).2=false)->first f fn b rs=none
 | [],_=>rfl
 |r :: rs,h=>by unfold first;rw[h r (by simp),cond_false];exact Ln fun r hr=>h r (by simp[hr])
theorem Lm{f fn b r:Int}:∀{pre rs:List Int},(∀r∈pre,(cO.yO f fn b r).2=false)->(cO.yO f fn b r).2=true->first f fn b (pre ++ r :: rs)=some r
 | [],rs,_,h=>by show first f fn b (r :: rs)=_;unfold first;rw[h,cond_true]
 |p :: pre,rs,hp,h=>by
  show first f fn b (p :: (pre ++ r :: rs))=_
  unfold first
  rw[hp p (by simp),cond_false];exact Lm (fun r hr=>hp r (by simp[hr])) h
structure Xp(n0:Nat)(x y z e:Value)(W:World):Prop where
 c1:W.cell? ⟨n0,0,none⟩=some x
 c2:W.cell? ⟨n0,1,none⟩=some y
 c3:W.cell? ⟨n0,2,none⟩=some z
 c4:W.cell? ⟨n0+1,0,none⟩=some e
 k1:W.frozen? ⟨n0,0,none⟩=false
 k2:W.frozen? ⟨n0,1,none⟩=false
 k3:W.frozen? ⟨n0,2,none⟩=false
 k4:W.frozen? ⟨n0+1,0,none⟩=false
theorem Xp.kept{n0:Nat}{x y z e:Value}{W W':World}{row:Option Nat}(h:Xp n0 x y z e W)(hg:W.grownBy W' row)(hr:∀r,row=some r->∃o:Obj,W.heap[r]?=some o/\o.isCells=false):Xp n0 x y z e W' :=
 ⟨cell_kept h.c1 hg hr,cell_kept h.c2 hg hr,cell_kept h.c3 hg hr,cell_kept h.c4 hg hr,(frozen_kept h.c1 hg hr).trans h.k1,(frozen_kept h.c2 hg hr).trans h.k2,(frozen_kept h.c3 hg hr).trans h.k3,(frozen_kept h.c4 hg hr).trans h.k4⟩
theorem Xp.below{n0:Nat}{x y z e:Value}{W W':World}(h:Xp n0 x y z e W)(hb:Below W.heap.size W W'):Xp n0 x y z e W':=h.kept (row:=none) ⟨hb.os,hb.tape,hb.output,hb.size,fun k hk _=>hb.block k hk⟩ (fun r e=>by cases e)
theorem aGH(W:World)(a c:Addr)(v:Value)(h:a≠c):(W.setCell a v).cell? c=W.cell? c:=by
 first |exact World.cell?_setCell_other W a v c h |exact World.cell?_setCell_other W a c v h
theorem Xp.put{n0:Nat}{x y z e:Value}{W:World}(h:Xp n0 x y z e W)(x' y' z' e':Value):Xp n0 x' y' z' e' ((((W.setCell ⟨n0,0,none⟩ x').setCell ⟨n0,1,none⟩ y').setCell ⟨n0,2,none⟩ z').setCell ⟨n0+1,0,none⟩ e'):=by
 obtain⟨c1,c2,c3,c4,k1,k2,k3,k4⟩:=h;refine⟨?_,?_,?_,?_,by simp[k1],by simp[k2],by simp[k3],by simp[k4]⟩
 ·rw[aGH _ _ _ _ (by simp),aGH _ _ _ _ (by simp),aGH _ _ _ _ (by simp)];exact World.cell?_setCell_same' _ _ _ (by rw[c1];rfl)
 ·rw[aGH _ _ _ _ (by simp),aGH _ _ _ _ (by simp)];exact World.cell?_setCell_same' _ _ _ (by rw[aGH _ _ _ _ (by simp),c2];rfl)
 ·rw[aGH _ _ _ _ (by simp)];exact World.cell?_setCell_same' _ _ _ (by rw[aGH _ _ _ _ (by simp),aGH _ _ _ _ (by simp),c3];rfl)
 ·exact World.cell?_setCell_same' _ _ _ (by rw[aGH _ _ _ _ (by simp),aGH _ _ _ _ (by simp),aGH _ _ _ _ (by simp),c4];rfl)
theorem Xp.out{n0:Nat}{x y z e:Value}{W:World}(h:Xp n0 x y z e W)(tmps:Array Value)(h1:tmps[10]?=some (.pointer (some ⟨n0,0,none⟩)))(h2:tmps[11]?=some (.pointer (some ⟨n0+1,0,none⟩))):(results f28 tmps).run prog W=.ok (.tuple #[.agg #[x,y,z],e]) W:=by
 obtain⟨c1,c2,c3,c4,_⟩:=h;simp[results,f28,go_sem,c1,c2,c3,c4,Array.getD_eq_getD_getElem?,h1,h2]
theorem Fk{B n0:Nat}{A W:World}(h:Below B A W)(hB:B<=n0)(x y z e:Value):Below B A ((((W.setCell ⟨n0,0,none⟩ x).setCell ⟨n0,1,none⟩ y).setCell ⟨n0,2,none⟩ z).setCell ⟨n0+1,0,none⟩ e) :=
 (((h.setCell (p:=⟨n0,0,none⟩) hB _).setCell (p:=⟨n0,1,none⟩) hB _).setCell (p:=⟨n0,2,none⟩) hB _).setCell (p:=⟨n0+1,0,none⟩) (Nat.le_succ_of_le hB) _
theorem Ou(n0:Nat)(W:World)(x y z e:Value):KeepsOthers W ((((W.setCell ⟨n0,0,none⟩ x).setCell ⟨n0,1,none⟩ y).setCell ⟨n0,2,none⟩ z).setCell ⟨n0+1,0,none⟩ e) :=
 (((KeepsOthers.setCell _ _ _).trans (KeepsOthers.setCell _ _ _)).trans (KeepsOthers.setCell _ _ _)).trans (KeepsOthers.setCell _ _ _)
theorem aNS.kept{fn x:Int}{g b1 o1 b2 o2 b3 o3:Nat}{W W':World}{row:Option Nat}(h:aNS fn x g b1 o1 b2 o2 b3 o3 W)(hg:W.grownBy W' row)(hr:∀r,row=some r->∃o:Obj,W.heap[r]?=some o/\o.isCells=false):aNS fn x g b1 o1 b2 o2 b3 o3 W' :=
 ⟨cell_kept h.c1 hg hr,cell_kept h.c2 hg hr,cell_kept h.c3 hg hr⟩
set_option maxRecDepth 100000 in
set_option maxHeartbeats 8000000 in
theorem aWM (f fn b s l:Int) (hb:0<=b/\b<18446744073709551616) (hl:iV.Fy s l=true) (he:gZ.tY f fn b=0) (hs:(cO.Qp f fn b).2=false) {w:World} (hG:GlobOk base.glob O0 w):Calls prog 28 #[.int .i64 f,.int .i64 fn,.int .u64 b,.int .i64 s,.int .i64 l] w fun e w'=>e=.returned (.tuple #[.agg #[.int .u64 (Od f fn b s l).1,.bool (Od f fn b s l).2.1,.int .i64 (Od f fn b s l).2.2],.int .i64 0])/\Below w.heap.size w w':=by
 refine(callsIn_wide (n:=3)).1 ?_;refine callsIn_of_wp_marks func28 rfl trivial ?_ rfl;simp only[Tryz.ntmps28,bWH,bYC,bYD,cJK,cJL,Array.replicate_succ,Array.replicate_zero,cJM,cJN,bYU,bWK];have aYO:=bGG 2 hb he hG;have aVU:=bGF 2 hl hG;have bJK:=bLB 2 hb he hs hG;have bTI:∀w',Below w.heap.size w w'->CallsIn Fence.wide 2 prog 73 #[.int .i64 f,.int .i64 fn,.int .u64 b] w' fun e w2=>∃b1 o1 b2 o2 b3 o3,e=.returned (.agg #[.int .i64 f,.func (.func 126) #[] #[ptr b1 o1,ptr b2 o2,ptr b3 o3]])/\Below w'.heap.size w' w2/\aNS fn (eI.xV f b) (eI.gV fn) b1 o1 b2 o2 b3 o3 w2:=fun w' uX =>
  callsIn_wide.2 (aZK f fn b hb (uO hG uX))
 have aCG:∀(a:Addr) (W:World) (v:Value) (x:Fn) (y z:Array Value),W.cell? a=some v->W.frozen? a=false->(store a (.func x y z)).run prog W=.ok () (W.setCell a (.func x y z)):=fun a W v x y z h1 h2=>by
  rw[run_store _ _ _ _ _ rfl,h1,h2];rfl
 obtain⟨W2,bER,aCQ,z2,r1,r2⟩:=opened w
 gi_wp2_with (refine⟨trivial,?_⟩;first
  | (gi_at_call 71;refine(aYO _ aCQ).mono ?_;rintro e w3 ⟨rfl,Bo⟩;have bPK:=Bo.size;have aKS:Below w.heap.size w w3:=aCQ.trans (Bo.mono (by omega)))
  | (gi_at_call 75;refine(aVU _ aKS).mono ?_;rintro e w4 ⟨rfl,Vi⟩;have bGK:=Vi.size;have aQB:Below w.heap.size w w4:=aKS.trans (Vi.mono (by omega)))
  | (gi_at_call 72;refine(bJK _ aQB).mono ?_;rintro e w5 ⟨rfl,aPY⟩;have bPJ:=aPY.size;have bEX:Below w.heap.size w w5:=aQB.trans (aPY.mono (by omega)))
  | (gi_at_call 73;refine(bTI _ bEX).mono ?_;rintro e w6 ⟨b1,o1,b2,o2,b3,o3,rfl,bEO,aVO⟩;have hz6:=bEO.size;have bTH:Below w.heap.size w w6:=bEX.trans (bEO.mono (by omega));obtain⟨c1,c2,c3,k1,k2,k3⟩:=three (((((bEO.block _ (by omega)).trans (aPY.block _ (by omega))).trans (Vi.block _ (by omega))).trans (Bo.block _ (by omega))).trans r1);obtain⟨c4,k4⟩:=one (((((bEO.block _ (by omega)).trans (aPY.block _ (by omega))).trans (Vi.block _ (by omega))).trans (Bo.block _ (by omega))).trans r2))
  | (gi_at_call 70;refine(callsIn_wide.2 (IvLadder.make _ s l)).mono ?_;rintro e w7 ⟨rfl,rfl⟩))
 have Yx:1<=s/\s<=l/\l<=66000:=of_decide_eq_true hl;have aPP:=Ziv.Up hb he hs;have hf:=aPP.fin.1;have bHI:∀x:IvLadder.Wv,(vJ.sp (f,eI.gV fn,fn,eI.xV f b) x.1).1:=fun x=>by
  obtain⟨h1,h2⟩:=Ziv.tZ aPP x.2;exact⟨h1,hf,h2.yV⟩
 obtain⟨W7,bEQ⟩:∃W7,w6.alloc (.cells #[.int .i64 f,.func (.func 126) #[] #[ptr b1 o1,ptr b2 o2,ptr b3 o3]] 129)=W7:=⟨_,rfl⟩;obtain⟨W8,bCH⟩:∃W8,(W7.alloc (.cells #[.int .i64 s] 3)).alloc (.cells #[.int .i64 l] 3)=W8:=⟨_,rfl⟩;rw[bEQ,bCH];have z7:W7.heap.size=w6.heap.size+1:=by rw[<-bEQ];simp
 have z8:W8.heap.size=w6.heap.size+3:=by rw[<-bCH];simp[z7]
 have bIT:Below w6.heap.size w6 W7:=by rw[<-bEQ];exact(Below.refl _ _).alloc (bUR _) _
 have bCF:Below W7.heap.size W7 W8:=by rw[<-bCH];exact((Below.refl _ _).alloc (bUR _) _).alloc (by simp) _
 have Zb:Below w6.heap.size w6 W8:=bIT.trans (bCF.mono (by omega));have bNB:Below w.heap.size w W8:=bTH.trans (Zb.mono (by omega));have q7:W7.heap[w6.heap.size]?=some (.cells #[.int .i64 f,.func (.func 126) #[] #[ptr b1 o1,ptr b2 o2,ptr b3 o3]] 129 (0,0)):=by rw[<-bEQ];exact World.alloc_heap_new _ _
 have q8:W8.heap[w6.heap.size]?=some (.cells #[.int .i64 f,.func (.func 126) #[] #[ptr b1 o1,ptr b2 o2,ptr b3 o3]] 129 (0,0)):=(bCF.block _ (by omega)).trans q7;have p1:W8.cell? ⟨w6.heap.size,0,none⟩=some (.int .i64 f):=by simp[World.cell?,q8]
 have p2:W8.cell? ⟨w6.heap.size,1,none⟩=some (.func (.func 126) #[] #[ptr b1 o1,ptr b2 o2,ptr b3 o3]):=by simp[World.cell?,q8]
 have s1:W8.cell? ⟨W7.heap.size,0,none⟩=some (.int .i64 s):=by rw[<-bCH,World.cell?_alloc_past _ _ _ (by simp)];simp
 have s2:W8.cell? ⟨W7.heap.size+1,0,none⟩=some (.int .i64 l):=by rw[<-bCH];simp[World.cell?_alloc_at]
 rw[z7]at s1 s2;have Ri:Xp w.heap.size (.int .u64 0) (.bool false) (.int .i64 0) (.int .i64 0) W8:=Xp.below ⟨c1,c2,c3,c4,k1,k2,k3,k4⟩ Zb;have bCA:aNS fn (eI.xV f b) (eI.gV fn) b1 o1 b2 o2 b3 o3 W8:=aVO.kept (row:=none) ⟨Zb.os,Zb.tape,Zb.output,Zb.size,fun k hk _=>Zb.block k hk⟩ (fun r e=>by cases e);refine wpIn_rangeFunc_ownF rfl (by omega) (gf:=124) (lb:=#[.pointer (some ⟨w6.heap.size+1,0,none⟩),.pointer (some ⟨w6.heap.size+1+1,0,none⟩)]) rfl trivial (enters_of func124 (by kernel_rfl) rfl)
  (IvLadder.stops Fence.wide (3-1) trivial trivial rfl (by omega) (w6.heap.size+1) W8.heap.size s l ⟨Yx.1,by omega⟩ Yx.2.2 Yx.2.1 W8 (fun w' aXW=>callsIn_wide.2 (callsIn_wide.1 (aVU w' (bNB.trans (aXW.mono (by omega)))))) (by omega) (bUR _) s1 s2) belowK_t (belowK_b (bUR _)) (Below.refl _ _) (fun _=>rfl)
  (fun pre W=>((∀r∈pre,(cO.yO f fn b r.1).2=false)/\Xp w.heap.size (.int .u64 0) (.bool false) (.int .i64 0) (.int .i64 0) W/\W.cell? ⟨w6.heap.size,0,none⟩=some (.int .i64 f)/\W.cell? ⟨w6.heap.size,1,none⟩=some (.func (.func 126) #[] #[ptr b1 o1,ptr b2 o2,ptr b3 o3])/\aNS fn (eI.xV f b) (eI.gV fn) b1 o1 b2 o2 b3 o3 W/\W8.heap.size<=W.heap.size)/\Below w.heap.size w W)
  (fun c pre W=>(c=.ret/\∃(r:IvLadder.Wv) (init:List IvLadder.Wv),pre=init ++ [r]/\(∀r∈init,(cO.yO f fn b r.1).2=false)/\(cO.yO f fn b r.1).2=true/\Xp w.heap.size (.int .u64 (cO.yO f fn b r.1).1) (.bool true) (.int .i64 r.1) (.int .i64 0) W)/\Below w.heap.size w W)
  (OwnFrom.and (Own.from (fun t A B row hs hg hr=>⟨hs.1,hs.2.1.kept hg hr,cell_kept hs.2.2.1 hg hr,cell_kept hs.2.2.2.1 hg hr,hs.2.2.2.2.1.kept hg hr,bVN hs.2.2.2.2.2 hg.size⟩) _) (ownFrom_below (bUR _) (by omega)))
  (fun c=>OwnFrom.and (Own.from (fun t A B row hs hg hr=>by obtain⟨h1,r,init,h2,h3,h4,h5⟩:=hs;exact⟨h1,r,init,h2,h3,h4,h5.kept hg hr⟩) _) (ownFrom_below (bUR _) (by omega)))
  ⟨⟨(fun r h=>by cases h),Ri,p1,p2,bCA,bUR _⟩,bNB⟩ ?a₁ ?assign ?body ?done ?stop
 case assign =>
  intro k x W K hK
  gi_wp2
  exact hK
 case body =>
  rintro k pre x W ⟨⟨aYA,hR,zO,vQ,hC,hZ⟩,hB⟩ _;have bTG:GlobOk base.glob O0 W:=uO hG hB;have bCM:=aQT f fn (eI.xV f b) x.1 hC (bHI x) bTG;have ez:vJ.dec f (eI.gV fn) fn (eI.xV f b) x.1=cO.yO f fn b x.1:=rfl;rw[ez]at bCM;have rZ:=hB.size;have Bn:=Uu hR.c1;have Yt:=Uu hR.c4;cases hd:(cO.yO f fn b x.1).2 with
  |false =>
   rw[hd]at bCM
   gi_wp2
   refine⟨trivial,?_⟩
   gi_at_call 74
   refine(CallsIn.inRound k (callsIn_wide.2 bCM)).mono ?_;rintro e w9 ⟨rfl,Vh⟩
   gi_wp2
   have gr:W.grownBy w9 none:=⟨Vh.os,Vh.tape,Vh.output,Vh.size,fun k hk _=>Vh.block k hk⟩;have nr:∀r,(none:Option Nat)=some r->∃o:Obj,W.heap[r]?=some o/\o.isCells=false:=fun r e=>by cases e
   refine⟨KeepsOthers.of_grownBy gr (fun j o e=>by cases e),Vh.mono hZ,⟨fun r hr=>?_,hR.kept gr nr,cell_kept zO gr nr,cell_kept vQ gr nr,hC.kept gr nr,bVN hZ Vh.size⟩,hB.trans (Vh.mono (by omega))⟩;rcases List.mem_append.1 hr with hr |hr
   ·exact aYA r hr
   ·rw[List.mem_singleton.1 hr];exact hd
  |true =>
   rw[hd]at bCM
   gi_wp2_with (refine⟨trivial,?_⟩;gi_at_call 74;refine(CallsIn.inRound k (callsIn_wide.2 bCM)).mono ?_;rintro e w9 ⟨rfl,Vh⟩;obtain⟨c1,c2,c3,c4,k1,k2,k3,k4⟩:=hR.below Vh)
   have gr:W.grownBy w9 none:=⟨Vh.os,Vh.tape,Vh.output,Vh.size,fun k hk _=>Vh.block k hk⟩;exact⟨(KeepsOthers.of_grownBy gr (fun j o e=>by cases e)).trans (Ou _ _ _ _ _ _),⟨rfl,x,pre,rfl,aYA,hd,(Xp.below hR Vh).put _ _ _ _⟩,Fk (hB.trans (Vh.mono (by omega))) (bUR _) _ _ _ _⟩
 case done =>
  rintro D ys W hD hS ⟨⟨aYA,hR,_⟩,hB⟩ hK;have bSW:=hR;obtain⟨c1,c2,c3,c4,k1,k2,k3,k4⟩:=bSW
  gi_wp2
  have bMW:=(Ou w.heap.size W (.int .u64 0) (.bool false) (.int .i64 0) (.int .i64 0)).same D _ hK rfl;refine⟨by simp,.inl ⟨_,_,rfl,run_takeDeferred bMW,?_⟩⟩;have bIZ:=(hR.put (.int .u64 0) (.bool false) (.int .i64 0) (.int .i64 0)).kept (grownBy_putObj' _ D (.deferred none)) (fun r e=>by cases e;exact⟨_,bMW,rfl⟩);have en:Od f fn b s l=(0,false,0):=by
   unfold Od;rw[<-hS,Ln (fun r hr=>by obtain⟨x,hx,rfl⟩:=List.mem_map.1 hr;exact aYA x hx)]
  refine⟨_,bIZ.out _ rfl rfl,?_⟩;rw[en];exact⟨rfl,(Fk hB (bUR _) _ _ _ _).grown (grownBy_putObj' _ D (.deferred none)) (Fk hB (bUR _) _ _ _ _).size (fun k e=>by cases e;omega)⟩
 case stop =>
  rintro D c pre W hD hS ⟨⟨rfl,r,init,rfl,aYA,hd,hR⟩,hB⟩ hK
  gi_wp2
  refine⟨by simp,.inl ⟨_,_,rfl,run_takeDeferred hK,?_⟩⟩;have bIZ:=hR.kept (grownBy_putObj' _ D (.deferred none)) (fun r e=>by cases e;exact⟨_,hK,rfl⟩);have en:Od f fn b s l=((cO.yO f fn b r.1).1,true,r.1):=by
   obtain⟨rest,hr⟩:=hS;unfold Od;rw[<-hr,List.map_append,List.map_cons,List.map_nil,List.append_assoc,bWK,bYU,Lm (fun r hr=>by obtain⟨x,hx,rfl⟩:=List.mem_map.1 hr;exact aYA x hx) hd]
  refine⟨_,bIZ.out _ rfl rfl,?_⟩;rw[en];exact⟨rfl,hB.grown (grownBy_putObj' _ D (.deferred none)) hB.size (fun k e=>by cases e;omega)⟩
def No(f fn b s l:Int):Int:=if iV.Fy s l then gZ.tY f fn b else 1
def Ei(f fn b s l:Int):Int×Bool×Int:=if No f fn b s l≠0 then(0,false,0)else bif (cO.Qp f fn b).2 then((cO.Qp f fn b).1,true,0)else Od f fn b s l
def sp(f fn b s l:Int):Prop×List D:=(0<=b/\b<18446744073709551616,[.agg [.sc (.int .u64 (Ei f fn b s l).1),.sc (.bool (Ei f fn b s l).2.1),.sc (.int .i64 (Ei f fn b s l).2.2)],.s (.sc (.int .i64 (No f fn b s l)))])
def aJ:dO:=orc5 (pN .i64) (pN .i64) (pN .u64) (pN .i64) (pN .i64) sp
theorem ok:OK 28 aJ:=aOV (qJ func28 rfl rfl) fun f fn b s l hb=>by
 have hb:0<=b/\b<18446744073709551616:=hb;refine Vv (xs:=[.int .i64 f,.int .i64 fn,.int .u64 b,.int .i64 s,.int .i64 l]) (ys:=[.agg #[.int .u64 (Ei f fn b s l).1,.bool (Ei f fn b s l).2.1,.int .i64 (Ei f fn b s l).2.2],.int .i64 (No f fn b s l)]) (fun w hG=>?_) rfl (fun i d v hd hv=>?_)
 ·unfold Ei
  by_cases he:No f fn b s l≠0
  ·rw[if_pos he];exact bad f fn b s l hb he hG
  ·rw[if_neg he];have e0:No f fn b s l=0:=Classical.not_not.1 he;rw[e0];unfold No at e0;cases hl:iV.Fy s l with
   |false=>rw[hl]at e0;cases e0
   |true =>
    rw[hl,if_pos rfl]at e0;cases hs:(cO.Qp f fn b).2 with
    |true=>exact aOF f fn b s l hb hl e0 hs hG
    |false=>exact aWM f fn b s l hb hl e0 hs hG
 ·match i with
  |0=>cases hd;cases hv;exact⟨rfl,fun Y w=>bKD rfl rfl rfl⟩
  |1=>cases hd;cases hv;exact⟨rfl,fun Y w=>⟨rfl,rfl⟩⟩
  |i+2=>cases hd
end IvClimb
namespace kX
def E:=mE [(28,IvClimb.aJ)] 23 [15] [] []
def aE:=bd f26
theorem aX:Nk E aE:=nk
theorem start a b c:aH E f26 aE [D.s (sc (int i64 a)),D.s (sc (int i64 b)),D.s (sc (int u64 c))]=letI A:=IvClimb.Ei a b c 128 65536;aO (0<=c/\c<18446744073709551616) (some [D.s (sc (int u64 A.fst)),D.s (sc (bool A.snd.fst)),D.s (sc (int i64 (IvClimb.No a b c 128 65536)))]):=eJ aX
def Eh(f fn b:Int):Int×Bool×Int:=IvClimb.Ei f fn b 128 65536
def sp(f fn b:Int):Prop×List D:=(0<=b/\b<18446744073709551616,[.s (.sc (.int .u64 (Eh f fn b).1)),.s (.sc (.bool (Eh f fn b).2.1)),.s (.sc (.int .i64 (gZ.tY f fn b)))])
theorem spec:oP E f26 aE (pN .i64) (pN .i64) (pN .u64) sp:=by
 intro f fn b h;refine(start f fn b).trans ((gP h).trans ?_);have e:IvClimb.No f fn b 128 65536=gZ.tY f fn b:=if_pos rfl;rw[e];rfl
def aJ:dO:=orc3 (pN .i64) (pN .i64) (pN .u64) sp
theorem ok:OK 26 aJ:=(fA E aE (aA IvClimb.ok aD) func26).yM rfl spec
end kX
end W
namespace W.Ziv
open Go AI M W W.aMU
theorem qU{f:Int}(hf:f=32\/f=64){p q:Int×Int}(h0:0<p.1)(h:R.qz p<=R.qz q):jG.kR f p<=jG.kR f q:=by
 have q0:0<q.1:=kA.1 (by have:=kA.2 h0;grind);have m:=aEF hf h;have b1:=Oj hf p;have b2:=Oj hf q;rw[Dp h0,Dp q0]at *;unfold ord at m;rw[aW,aW]at m;exact m
def Ti(f Q:Int)(V:Rat):Prop:=∃a c:Int×Int,0<a.1/\R.qz a<=V/\V<=R.qz c/\jG.kR f a=Q/\jG.kR f c=Q
def bDQ(f Q:Int)(V:Rat):Prop:=Ti f Q V\/Ti f (Q-sg f) (-V)
theorem Ti.pos{f Q:Int}{V:Rat}(h:Ti f Q V):0<V:=by
 obtain⟨a,c,h0,h1,_⟩:=h;have:=kA.2 h0;grind
theorem Ti.bd{f Q:Int}{V:Rat}(hf:f=32\/f=64)(h:Ti f Q V):0<=Q/\Q<=mJ.rJ (Hx.Ir f)/\mJ.rJ (Hx.Ir f)<sg f:=by
 obtain⟨a,c,h0,_,_,rfl,_⟩:=h;rw[Dp h0];exact Oj hf a
theorem Ti.eq{f Q Q':Int}{V:Rat}(hf:f=32\/f=64)(h:Ti f Q V)(h':Ti f Q' V):Q=Q':=by
 obtain⟨a,c,h0,h1,h2,rfl,e1⟩:=h;obtain⟨a',c',bJQ,Xj,aQC,rfl,e2⟩:=h';have m1:=qU hf h0 (bZW h1 aQC);have m2:=qU hf bJQ (bZW Xj h2);omega
theorem bDQ.eq{f Q Q':Int}{V:Rat}(hf:f=32\/f=64)(h:bDQ f Q V)(h':bDQ f Q' V):Q=Q':=by
 rcases h with h |h <;> rcases h' with h' |h'
 ·exact h.eq hf h'
 ·have:=h.pos;have:=h'.pos;grind
 ·have:=h.pos;have:=h'.pos;grind
 ·have:=h.eq hf h';omega
theorem bDQ.bd{f Q:Int}{V:Rat}(hf:f=32\/f=64)(h:bDQ f Q V):0<=Q/\Q<2*sg f:=by
 rcases h with h |h <;> have:=h.bd hf <;> omega
end W.Ziv
namespace W.Ziv
open Go AI M W W.aMU
def sI(u W:Nat):Nat->Int
 |0=>0
 |n+1=>sI u W n+(if n%4=1 then(R.sq u W n:Int)else if n%4=3 then -(R.sq u W n:Int)else 0)
def cI(u W:Nat):Nat->Int
 |0=>0
 |n+1=>cI u W n+(if n%4=0 then(R.sq u W n:Int)else if n%4=2 then -(R.sq u W n:Int)else 0)
theorem aRV(u W:Nat):∀n,((sI u W n:Int):Rat)=R.sum (fun k=>R.ss k*(R.sq u W k:Rat)) n
 |0=>by simp[sI,R.sum]
 |n+1=>by
  rw[sI,R.dM,cHP,aRV u W n];unfold R.ss;split
  ·rw[cJP,cFX]
  ·split
   ·rw[cHO,cFX];grind
   ·rw[cJO];rfl
theorem aTB(u W:Nat):∀n,((cI u W n:Int):Rat)=R.sum (fun k=>R.cc k*(R.sq u W k:Rat)) n
 |0=>by simp[cI,R.sum]
 |n+1=>by
  rw[cI,R.dM,cHP,aTB u W n];unfold R.cc;split
  ·rw[cJP,cFX]
  ·split
   ·rw[cHO,cFX];grind
   ·rw[cJO];rfl
def wK:Nat:=1208925819614629174706176
theorem aTR:R.ab (((1017275999990815458903788:Nat):Rat)-(wK:Rat)*R.sn 1)<=680/\R.ab (((653185407961314874212932:Nat):Rat)-(wK:Rat)*R.cs 1)<=680:=by
 have e1:sI (2^79) (2^80) 81=((579589912201271152073009:Nat):Int):=by decide +kernel
 have e2:cI (2^79) (2^80) 81=((1060932217912824869797341:Nat):Int):=by decide +kernel
 have h1:=aRV (2^79) (2^80) 81;have h2:=aTB (2^79) (2^80) 81;rw[e1,cFX]at h1;rw[e2,cFX]at h2;have m:((2^79:Nat):Rat)<((2^79:Nat):Rat)+1:=by grind
 have b:=R.aDK (T:=1) (w1:=79) (h:=1) (u:=2^79) (by grind) (cAZ) (by rw[Rat.mul_one];exact cAZ) (by rw[Rat.mul_one];exact m) (by decide) (by decide) (by decide) h1 h2;have d:R.Gf (2^(79+1)) 1 579589912201271152073009 1060932217912824869797341=(1017275999990815458903788,653185407961314874212932):=by decide +kernel
 have w:2^(79+1)=wK:=by decide +kernel
 have t:((4^1*(2*(79+1)+10):Nat):Rat)=680:=by norm_cast
 rw[d,w,t]at b;exact b
def Is:Int:=4607182418800017408
theorem aIT:Real Is:=⟨by decide,by decide +kernel,by decide +kernel,by decide +kernel⟩
theorem aIU:R.qz (aZ.qM Is)=1:=by
 rw[show aZ.qM Is=(1,0) by decide +kernel,oT]
theorem aRN:R.pz (-80)*(wK:Rat)=1:=by
 have:=R.fG 0 (n:=80) (c:=(wK:Rat)) (by rw[show 2^80=wK by decide +kernel]);rwa [R.fQ]at this
theorem aUA:R.ab (((1017275999990815458903788:Nat):Rat)-(wK:Rat)*R.Sf 1 (kx Is))<=681/\R.ab (((653185407961314874212932:Nat):Rat)-(wK:Rat)*R.Cf 1 (kx Is))<=681:=by
 obtain⟨p1,p2⟩:=R.gL;have n1:=aCC aIT;rw[aIU]at n1;unfold R.rT at n1;have hk:R.ab (1-(kx Is:Rat)*(R.pi/2))<=1:=bZW n1 (by grind);have hl:R.ab (1-((0:Int):Rat)*(R.pi/2))<=1:=by
  rw[show((0:Int):Rat)=0 from rfl,cJO,R.bW];grind
 obtain⟨a,b⟩:=R.aTS hk hl;have e0:R.Sf 1 0=R.sn 1:=by
  unfold R.Sf R.rs;rw[if_pos (show(0:Int)%4=0 from rfl),show((0:Int):Rat)=0 from rfl,cJO,show(1:Rat)-0=1 by grind]
 have e1:R.Cf 1 0=R.cs 1:=by
  unfold R.Cf R.rc;rw[if_pos (show(0:Int)%4=0 from rfl),show((0:Int):Rat)=0 from rfl,cJO,show(1:Rat)-0=1 by grind]
 rw[e0]at a;rw[e1]at b;obtain⟨c,d⟩:=aTR;have h:=R.Pj (n:=80) (by decide);rw[R.aZI]at h;have hw:=aRN;have w0:(0:Rat)<=(wK:Rat):=by exact_mod_cast cAS _
 have m:=R.aF w0 (show 0<=R.pz (-80)-R.Dz from by
  have:R.Dz<=R.pz (-80):=h;grind)
 have hm:(wK:Rat)*R.Dz<=1:=by grind
 rw[R.bW]at a b c d;have ma1:=R.aF w0 (show 0<=R.Dz+(R.Sf 1 (kx Is)-R.sn 1) by grind);have ma2:=R.aF w0 (show 0<=R.Dz-(R.Sf 1 (kx Is)-R.sn 1) by grind);have mb1:=R.aF w0 (show 0<=R.Dz+(R.Cf 1 (kx Is)-R.cs 1) by grind);have mb2:=R.aF w0 (show 0<=R.Dz-(R.Cf 1 (kx Is)-R.cs 1) by grind);rw[R.bW,R.bW];generalize (wK:Rat)=W at *;generalize R.Sf 1 (kx Is)=A at *;generalize R.Cf 1 (kx Is)=B at *;constructor <;> constructor <;> grind
theorem aOM{a b c s w d:Nat}{V C:Rat}(hw:0<w)(hd:d<c)(h1:a*(c+d)+w*d<=w*s)(h2:w*(s+d)+b*d<=b*c)(hC:R.ab ((c:Rat)-(w:Rat)*C)<=(d:Rat))(hS:C≠0->R.ab ((s:Rat)-(w:Rat)*(V*C))<=(d:Rat)):(a:Rat)<=(w:Rat)*V/\(w:Rat)*V<=(b:Rat):=by
 have g1:(a:Rat)*((c:Rat)+d)+w*d<=w*s:=by exact_mod_cast h1
 have g2:(w:Rat)*((s:Rat)+d)+b*d<=b*c:=by exact_mod_cast h2
 have w0:(0:Rat)<w:=by exact_mod_cast hw
 have a0:(0:Rat)<=a:=by exact_mod_cast cAS _
 have b0:(0:Rat)<=b:=by exact_mod_cast cAS _
 have d0:(d:Rat)<c:=by exact_mod_cast hd
 rw[R.bW]at hC;have c0:0<C:=by
  refine Rat.not_le.1 fun hn=>?_
  have:=R.aF (bZY w0) (show 0<=-C by grind);grind
 have hS:=hS (by grind);rw[R.bW]at hS;have q0:=Rat.mul_pos w0 c0;generalize (w:Rat)=W at *;generalize (a:Rat)=A at *;generalize (b:Rat)=B at *;generalize (c:Rat)=c at *;generalize (s:Rat)=s at *;generalize (d:Rat)=d at *;have m1:=R.aF a0 (show 0<=c+d-W*C by grind);have m2:=R.aF (bZY w0) (show 0<=W*(V*C)-(s-d) by grind);have m3:=R.aF b0 (show 0<=W*C-(c-d) by grind);have m4:=R.aF (bZY w0) (show 0<=s+d-W*(V*C) by grind);exact⟨R.bS q0 (by grind),R.bS q0 (by grind)⟩
theorem Iq:∀{fn:Int} {A B:Int},((fn=1/\A=1017275999990815458903107/\B=1017275999990815458904469)\/(fn=2/\A=653185407961314874212251/\B=653185407961314874213613)\/(fn=3/\A=1882790410002582395862843/\B=1882790410002582395872377))->R.qz (A,-80)<=vx fn Is/\vx fn Is<=R.qz (B,-80):=by
 intro fn A B h;obtain⟨a,b⟩:=aUA;have hw:=aRN;have w0:(0:Rat)<(wK:Rat):=by exact_mod_cast(show 0<wK by decide)
 have p0:=R.dC (-80);have key:∀{V:Rat} {A B:Int},(A:Rat)<=(wK:Rat)*V->(wK:Rat)*V<=(B:Rat)->R.qz (A,-80)<=V/\V<=R.qz (B,-80):=by
  intro V A B h1 h2;have m1:=R.aF (bZY p0) (show 0<=(wK:Rat)*V-(A:Rat) by grind);have m2:=R.aF (bZY p0) (show 0<=(B:Rat)-(wK:Rat)*V by grind);unfold R.qz;dsimp only;have e:R.pz (-80)*((wK:Rat)*V)=V:=by rw[<-cFV,hw,cJP]
  constructor <;> grind
 rw[R.bW]at a b;have k1:((681:Nat):Rat)=681:=by norm_cast
 unfold vx R.fv;rw[aIU];rcases h with ⟨rfl,rfl,rfl⟩ |⟨rfl,rfl,rfl⟩ |⟨rfl,rfl,rfl⟩
 ·rw[if_pos rfl];refine key ?_ ?_
  ·rw[show(1017275999990815458903107:Int)=((1017275999990815458903788:Nat):Int)-((681:Nat):Int) by decide +kernel,cIS,cFX,cFX,k1];grind
  ·rw[show(1017275999990815458904469:Int)=((1017275999990815458903788:Nat):Int)+((681:Nat):Int) by decide +kernel,cHP,cFX,cFX,k1];grind
 ·rw[if_neg (by decide),if_pos rfl];refine key ?_ ?_
  ·rw[show(653185407961314874212251:Int)=((653185407961314874212932:Nat):Int)-((681:Nat):Int) by decide +kernel,cIS,cFX,cFX,k1];grind
  ·rw[show(653185407961314874213613:Int)=((653185407961314874212932:Nat):Int)+((681:Nat):Int) by decide +kernel,cHP,cFX,cFX,k1];grind
 ·rw[if_neg (by decide),if_neg (by decide)];generalize R.Sf 1 (kx Is)=S at *;generalize R.Cf 1 (kx Is)=C at *;obtain⟨q1,q2⟩:=aOM (a:=1882790410002582395862843) (b:=1882790410002582395872377) (c:=653185407961314874212932) (s:=1017275999990815458903788) (w:=wK) (d:=681) (V:=S/C) (C:=C) (by decide) (by decide) (by decide +kernel) (by decide +kernel) (by rw[R.bW,k1];exact⟨b.1,b.2⟩) (fun hc=>by rw[Rat.div_mul_cancel hc,R.bW,k1];exact⟨a.1,a.2⟩);refine key ?_ ?_
  ·rw[show(1882790410002582395862843:Int)=((1882790410002582395862843:Nat):Int)from rfl,cFX];exact q1
  ·rw[show(1882790410002582395872377:Int)=((1882790410002582395872377:Nat):Int)from rfl,cFX];exact q2
theorem uZ{f P:Int}(hf:f=32\/f=64){s:(Int×Int)×(Int×Int)}{A B:Int×Int}(hA:0<A.1)(a:R.qz A<=R.qz s.1)(h:R.qz s.1<=R.qz s.2)(b:R.qz s.2<=R.qz B)(e1:jG.kR f A=P)(e2:jG.kR f B=P):rD.aNR f s=(P,true):=by
 have s0:0<s.1.1:=kA.1 (by have:=kA.2 hA;grind);have t0:0<s.2.1:=kA.1 (by have:=kA.2 s0;grind);have m1:=qU hf hA a;have m2:=qU hf s0 h;have m3:=qU hf t0 b;unfold rD.aNR;rw[aW,show jG.kR f s.1=P by omega]
theorem aOT{f P A B:Int}(hf:f=32\/f=64){s:(Int×Int)×(Int×Int)}{V:Rat}(h:aGB s V 128)(hA:1<A)(hB:B<=2417851639229258349412352)(a:R.qz (A,-80)<=V)(b:V<=R.qz (B,-80))(e1:jG.kR f (A-1,-80)=P)(e2:jG.kR f (B+1,-80)=P):rD.aNR f s=(P,true):=by
 have V2:V<=R.qz (1,1):=bZW b ((R.Ue (g:=-80) (by show(-80:Int)<=-80;decide) (by show(-80:Int)<=1;decide)).2 (by rw[show(1:Int)*((2^((1:Int) - -80).toNat:Nat):Int)=2417851639229258349412352 by decide +kernel,show((2^((-80:Int) - -80).toNat:Nat):Int)=1 by decide +kernel,Int.mul_one];exact hB));have V0:0<=V:=bZW (bZY (kA.2 (show 0<((A,-80):Int×Int).1 by show 0<A;omega))) a;have e:R.qz (1,1)=2:=by unfold R.qz;rw[R.aIO];grind
 rw[e]at V2;obtain⟨_,_,lo,hi,wd,_⟩:=h;rw[R.bG V0]at wd;have w1:=R.aF (bZY (R.dC (-129))) (show 0<=2-V by grind);have w2:=R.qA (-128);have w3:=R.bV (show(-128:Int)<=-80 by decide);have wd:R.qz s.2-R.qz s.1<=R.pz (-129)*V:=wd;have w2:R.pz (-129)*2=R.pz (-128):=w2;have ea:R.qz (A-1,-80)=R.qz (A,-80)-R.pz (-80):=by
  unfold R.qz;dsimp only;rw[cIS,show((1:Int):Rat)=1 from rfl];grind
 have eb:R.qz (B+1,-80)=R.qz (B,-80)+R.pz (-80):=by
  unfold R.qz;dsimp only;rw[cHP,show((1:Int):Rat)=1 from rfl];grind
 exact uZ hf (A:=(A-1,-80)) (B:=(B+1,-80)) (by show 0<A-1;omega) (by grind) (by grind) (by grind) e1 e2
theorem aIV{fn:Int}(h:fn=1\/fn=2\/fn=3):gZ.tY 64 fn Is=0/\(cO.Qp 64 fn Is).2=false:=by
 rcases h with rfl |rfl |rfl <;> exact⟨by decide +kernel,by decide +kernel⟩
def aOY(fn:Int):Int:=if fn=1 then 4605754516372524270 else if fn=2 then 4603041830072026764 else 4609692760021066662
theorem aBY{fn:Int}(h:fn=1\/fn=2\/fn=3):cO.yO 64 fn Is 128=(aOY fn,true):=by
 obtain⟨he,hs⟩:=aIV h;have hn:=Up (by decide) he hs;obtain⟨_,hE⟩:=tZ hn (show(1:Int)<=128/\(128:Int)<=66000 by decide);have ev:vZ fn (eI.xV 64 Is)=vx fn Is:=by
  unfold vZ eI.xV;rw[aU,if_neg (by decide)]
 rw[ev]at hE;unfold cO.yO vJ.dec;rcases h with rfl |rfl |rfl
 ·obtain⟨a,b⟩:=Iq (fn:=1) (.inl ⟨rfl,rfl,rfl⟩);exact aOT (.inr rfl) hE (by decide) (by decide) a b (by decide +kernel) (by decide +kernel)
 ·obtain⟨a,b⟩:=Iq (fn:=2) (.inr (.inl ⟨rfl,rfl,rfl⟩));exact aOT (.inr rfl) hE (by decide) (by decide) a b (by decide +kernel) (by decide +kernel)
 ·obtain⟨a,b⟩:=Iq (fn:=3) (.inr (.inr ⟨rfl,rfl,rfl⟩));exact aOT (.inr rfl) hE (by decide) (by decide) a b (by decide +kernel) (by decide +kernel)
theorem Ox{fn l:Int}(h:fn=1\/fn=2\/fn=3)(hl:128<=l/\l<=66000):IvClimb.Ei 64 fn Is 128 l=(aOY fn,true,128):=by
 obtain⟨he,hs⟩:=aIV h;have el:iV.Fy 128 l=true:=decide_eq_true ⟨by decide,hl⟩;unfold IvClimb.Ei IvClimb.No;rw[el,if_pos rfl,he,if_neg (by decide),hs,cond_false];unfold IvClimb.Od;rw[IvLadder.zB hl.1];unfold IvClimb.first
 rw[aBY h,cond_true];dsimp only;rw[aBY h]
end W.Ziv
namespace W.Ziv
open Go AI M W W.aMU
theorem Wg{f fn b Q:Int}(he:gZ.tY f fn b=0)(hs:(cO.Qp f fn b).2=false)(hd:cO.yO f fn b 128=(Q,true)):kX.Eh f fn b=(Q,true,128):=by
 unfold kX.Eh IvClimb.Ei IvClimb.No;rw[show iV.Fy 128 65536=true from rfl,if_pos rfl,he,if_neg (by decide),hs,cond_false];unfold IvClimb.Od;rw[IvLadder.zB (by decide)];unfold IvClimb.first
 rw[hd,cond_true];dsimp only;rw[hd]
theorem aZM:kX.Eh 32 1 1065353216=(1062693540,true,128):=by
 have he:gZ.tY 32 1 1065353216=0:=by decide +kernel
 have hs:(cO.Qp 32 1 1065353216).2=false:=by decide +kernel
 obtain⟨_,hE⟩:=tZ (Up (by decide) he hs) (show(1:Int)<=128/\(128:Int)<=66000 by decide);refine Wg he hs ?_;have ex:eI.xV 32 1065353216=Is:=by decide +kernel
 have ev:vZ 1 (eI.xV 32 1065353216)=vx 1 Is:=by
  unfold vZ;rw[if_neg (by decide),ex]
 rw[ev]at hE;obtain⟨a,b⟩:=Iq (fn:=1) (.inl ⟨rfl,rfl,rfl⟩);unfold cO.yO vJ.dec;exact aOT (.inl rfl) hE (by decide) (by decide) a b (by decide +kernel) (by decide +kernel)
theorem aPJ:kX.Eh 64 4 1=(3,true,128):=by
 have he:gZ.tY 64 4 1=0:=by decide +kernel
 have hs:(cO.Qp 64 4 1).2=false:=by decide +kernel
 obtain⟨_,hE⟩:=tZ (Up (by decide) he hs) (show(1:Int)<=128/\(128:Int)<=66000 by decide);refine Wg he hs ?_;have ev:vZ 4 (eI.xV 64 1)=R.sn (R.pz (-1074)*R.pi):=by
  unfold vZ vT;rw[if_pos (by decide),show eI.xV 64 1=1 from rfl,show cV.zC (cV.pS 1)=0 by decide +kernel,show cV.Fj (cV.pS 1)=(1,-1074) by decide +kernel];unfold tv R.rs;rw[if_pos rfl,if_pos (show(0:Int)%4=0 from rfl)];unfold R.qz;dsimp only;rw[show((1:Int):Rat)=1 from rfl,cJP]
 rw[ev]at hE;unfold cO.yO vJ.dec;obtain⟨_,_,lo,hi,wd,_⟩:=hE;have wd:R.qz (iZ.enc (eI.gV 4) 4 (eI.xV 64 1) 128).2-R.qz (iZ.enc (eI.gV 4) 4 (eI.xV 64 1) 128).1<=R.pz (-129)*R.ab (R.sn (R.pz (-1074)*R.pi)):=wd;generalize iZ.enc (eI.gV 4) 4 (eI.xV 64 1) 128=s at *;obtain⟨p1,p2⟩:=R.gL;have w0:=R.dC (-1074);have w1:=R.bV (show(-1074:Int)<=-10 by decide);have bUG:R.pz (-10)*1024=1:=by
  have:=R.fG 0 (n:=10) (c:=1024) (by norm_cast);rwa [R.fQ]at this
 have e1:=R.bV (show(-129:Int)<=-10 by decide);have e0:=R.dC (-129);have q1:R.qz (3,-1074)=3*R.pz (-1074):=by unfold R.qz;dsimp only;rw[show((3:Int):Rat)=3 by norm_cast]
 have q2:R.qz (13,-1076)*4=13*R.pz (-1074):=by
  have:=R.fG (-1074) (n:=2) (c:=4) (by norm_cast);rw[show(-1074:Int)-((2:Nat):Int)=-1076 by decide]at this;unfold R.qz;dsimp only;rw[show((13:Int):Rat)=13 by norm_cast];grind
 generalize hw:R.pz (-1074)=w at *;generalize R.pz (-129)=e at *;generalize R.pz (-10)=t at *;have x0:0<=w*R.pi:=R.aF (bZY w0) (by grind);have x1:=R.aF (show 0<=w by grind) (show 0<=314160/100000-R.pi by grind);have x2:=R.aF (show 0<=w by grind) (show 0<=R.pi-314159/100000 by grind);obtain⟨s1,s2⟩:=R.wF (x:=w*R.pi) x0 (by grind);generalize hx:w*R.pi=x at *;have xs:x<=1/100:=by grind
 have y1:=R.bR x0 xs x0 xs;have y0:=R.aF x0 x0;have z1:=R.aF x0 (show 0<=1/100*(1/100)-x*x by grind);have z2:=R.aF x0 y0;have z3:=R.bR y0 y1 y0 y1;have z4:=R.aF x0 (show 0<=1/100*(1/100)*(1/100*(1/100))-x*x*(x*x) by grind);generalize R.sn x=V at *;have V0:0<=V:=by grind
 rw[R.bG V0]at wd;have l1:x*(99/100)<=V:=by grind
 have l2:V<=x*(101/100):=by grind
 have ht:t=1/1024:=by grind
 have v1:=R.aF V0 (show 0<=1/1024-e by grind);have wd2:R.qz s.2-R.qz s.1<=V/1024:=by grind
 have k1:w*(314159/100000)<=x:=by grind
 have k2:x<=w*(314160/100000):=by grind
 clear s1 s2 z1 z2 z3 z4 y0 y1 v1 wd x1 x2 e0 e1 ht w1 bUG hx;have a0:R.qz s.1<=R.qz s.2:=bZW lo hi;have a1:R.qz (3,-1074)<=R.qz s.1:=by
  generalize R.qz s.1=L at *;generalize R.qz s.2=H at *;grind
 have a2:R.qz s.2<=R.qz (13,-1076):=by
  generalize R.qz s.1=L at *;generalize R.qz s.2=H at *;grind
 exact uZ (.inr rfl) (A:=(3,-1074)) (B:=(13,-1076)) (by decide) a1 a0 a2 (by decide +kernel) (by decide +kernel)
end W.Ziv
namespace W
open Go AI M
namespace Je
def E:=mE [(26,kX.aJ),(27,cO.aJ),(28,IvClimb.aJ)] 93 [] [(7,[1,4,7,10])] [7]
def aE:=bd f24
theorem aX:Nk E aE:=nk
def J7 a b c d:=mT E f24 aE 7 [dG a,dG b,dG c,dG d]
theorem start:aH E f24 aE []=letI F:=kX.Eh 64 3 4607182418800017408;letI C:=kX.Eh 64 2 4607182418800017408;letI B:=kX.Eh 64 1 4607182418800017408;letI A:=some [D.s (sc (bool false))];aO ((0:Int)<=(4607182418800017408:Int)/\(4607182418800017408:Int)<(18446744073709551616:Int)) (aO ((0:Int)<=(4607182418800017408:Int)/\(4607182418800017408:Int)<(18446744073709551616:Int)) (aO ((0:Int)<=(4607182418800017408:Int)/\(4607182418800017408:Int)<(18446744073709551616:Int)) (aO ((0:Int)<=(4602678819172646912:Int)/\(4602678819172646912:Int)<(18446744073709551616:Int)) (aB (!B.snd.fst) A (aB (!C.snd.fst) A (aB (!F.snd.fst) A (Je.J7 B.fst C.fst F.fst (cO.aFQ 64 4 4602678819172646912 1).fst))))))):=eJ aX
theorem Mr a b c d:J7 a b c d=letI B:=some [D.s (sc (bool false))];letI A:=IvClimb.Ei 64 1 4607182418800017408 128 128;aO ((0:Int)<=(4607182418800017408:Int)/\(4607182418800017408:Int)<(18446744073709551616:Int)) (aB (a==4605754516372524270) (aB (b==4603041830072026764) (aB (c==4609692760021066662) (aB (d==4607182418800017408) (some [D.s (sc (bool (A.fst==a&&(A.snd.fst==true&&(A.snd.snd==128&&true)))))]) B) B) B) B):=cJ aX
def sp:Prop×List D:=(True,[.s (.sc (.bool true))])
theorem spec(h:sp.1):aH E f24 aE []=some sp.2:=by
 have v:∀fn:Int,fn=1\/fn=2\/fn=3->kX.Eh 64 fn 4607182418800017408=(Ziv.aOY fn,true,128):=fun fn h=>Ziv.Ox (l:=65536) h (by decide)
 have d:cO.aFQ 64 4 4602678819172646912 1=(4607182418800017408,true):=by
  unfold cO.aFQ;rw[if_neg (show ¬cO.aQM 64 4 4602678819172646912 1≠0 from fun h=>h (by decide +kernel)),show cO.Qp 64 4 4602678819172646912=(4607182418800017408,true) by decide +kernel,cond_true]
 refine start.trans ?_;rw[v 1 (by decide),v 2 (by decide),v 3 (by decide),d,gP (by decide),gP (by decide),gP (by decide),gP (by decide)];show J7 4605754516372524270 4603041830072026764 4609692760021066662 4607182418800017408=_;have c:IvClimb.Ei 64 1 4607182418800017408 128 128=(Ziv.aOY 1,true,128):=Ziv.Ox (l:=128) (.inl rfl) (by decide);rw[Mr,c,gP (by decide)];rfl
def aJ:dO:=orc0  sp
theorem ok:OK 24 aJ:=(fA E aE (aA kX.ok (aA cO.ok (aA IvClimb.ok aD))) func24).bDV spec
end Je
namespace LawZFixed
def E:Env:={ ({ base with C:=callsOf [(24,Je.aJ),(26,kX.aJ),(27,cO.aJ),(28,IvClimb.aJ)],roll:=tlook [(6,4)] })with nt:=258,own:=[],keep:=fun k=>(tlook [(6,[45,46,47])] k).getD [],cut:=tlook [(12,[]),(18,[]),(24,[])] }
def aE:=bd f5
theorem start:aH E f5 aE []=aO True (aO ((0:Int)<=(9223372036854775808:Int)/\(9223372036854775808:Int)<(18446744073709551616:Int)) (aO ((0:Int)<=(0:Int)/\(0:Int)<(18446744073709551616:Int)) (aO ((0:Int)<=(1:Int)/\(1:Int)<(18446744073709551616:Int)) (aO ((0:Int)<=(9223372036854775808:Int)/\(9223372036854775808:Int)<(18446744073709551616:Int)) (aO ((0:Int)<=(18442240474082181120:Int)/\(18442240474082181120:Int)<(18446744073709551616:Int)) (aO ((0:Int)<=(2139095041:Int)/\(2139095041:Int)<(18446744073709551616:Int)) (aO ((0:Int)<=(4602678819172646912:Int)/\(4602678819172646912:Int)<(18446744073709551616:Int)) (aO ((0:Int)<=(1:Int)/\(1:Int)<(18446744073709551616:Int)) (aO ((0:Int)<=(1065353216:Int)/\(1065353216:Int)<(18446744073709551616:Int)) (aO ((0:Int)<=(13830554455654793216:Int)/\(13830554455654793216:Int)<(18446744073709551616:Int)) (aO ((0:Int)<=(4602678819172646912:Int)/\(4602678819172646912:Int)<(18446744073709551616:Int)) (aB ((kX.Eh 64 4 1).fst !=3) (some [D.s (sc (bool false))]) (aB ((kX.Eh 32 1 1065353216).fst !=1062693540) (some [D.s (sc (bool false))]) (aB (!(kX.Eh 64 4 1).snd.fst) (some [D.s (sc (bool false))]) (aB (!(kX.Eh 32 1 1065353216).snd.fst) (some [D.s (sc (bool false))]) (aO ((0:Int)<=(4602678819172646912:Int)/\(4602678819172646912:Int)<(18446744073709551616:Int)) (aO ((0:Int)<=(0:Int)/\(0:Int)<(18446744073709551616:Int)) (aO ((0:Int)<=(0:Int)/\(0:Int)<(18446744073709551616:Int)) (aO ((0:Int)<=(4294967296:Int)/\(4294967296:Int)<(18446744073709551616:Int)) (aO ((0:Int)<=(4294967296:Int)/\(4294967296:Int)<(18446744073709551616:Int)) (aO ((0:Int)<=(0:Int)/\(0:Int)<(18446744073709551616:Int)) (some [D.s (sc (bool true))])))))))))))))))))))))):=by kernel_rfl
def sp:Prop×List D:=(True,[.s (.sc (.bool true))])
theorem spec(h:sp.1):aH E f5 aE []=some sp.2:=by
 refine start.trans ?_;rw[Ziv.aZM,Ziv.aPJ];rw[gP trivial,gP (by decide),gP (by decide),gP (by decide),gP (by decide),gP (by decide),gP (by decide),gP (by decide),gP (by decide),gP (by decide),gP (by decide),gP (by decide)];rw[gE rfl,gE rfl,bWR,bF,bF,gP (by decide),gP (by decide),gP (by decide),gP (by decide),gP (by decide),gP (by decide)];rfl
def aJ:dO:=orc0  sp
theorem fnok:sZ prog E 5 f5 aE:=aFA rH mixed (lY _ rfl (aA Je.ok (aA kX.ok (aA cO.ok (aA IvClimb.ok aD)))) (nR)) func5 rfl rfl rfl
theorem ok:lA prog base.glob 5 aJ:=fnok.bDV spec
end LawZFixed
end W
namespace AI
open Go Go.RowKit Go.ChangeShapes Go.WideShapes Go.ChangeAt
abbrev noX:Nat->Prop:=fun _=>False
theorem aRB{w:World}{a:Addr}{v:Value}(h:w.cell? a=some v):a=⟨a.block,a.off,none⟩/\a.block<w.heap.size:=by
 unfold World.cell? at h;split at h
 ·rename_i c t fr hb;split at h
  ·cases h
  ·rename_i hs;obtain⟨b,o,s⟩:=a;cases s with
   |some x=>simp at hs
   |none=>exact⟨rfl,(Array.getElem?_eq_some_iff.1 hb).1⟩
 ·cases h
section
variable {H:Type} {enc:TypeId×Value->H} {P:Program} {w:World} {held:Bool} {sp:Nat->Bool}
theorem glob_ints{name:String}{g:Nat}{t e:TypeId}{k:IntKind}{n fuel:Nat}{ns:List Int}{cs:Array Value}{p:List MemPlace}(hg:P.globalNamed name=some g)(hv:w.var? P name=some cs)(ht:P.underlying t=some (.array n e))(he:P.underlying e=some (.int k))(hc:P.cellsOf e=1)(hn:ns.length=n)(Bn:0<n)
  (hd:DataW.trod enc P w 0 sp held fuel t cs.toList=some (.agg (ns.map fun m=>.lit (.int k m)),p)):g<w.heap.size/\¬noX g/\uF noX w g 0 (wL k ns):=by
 obtain⟨xs,m1,_,hx,_,aSJ,bRY⟩:=DataW.trod_array ht hd;simp only[Prod.mk.injEq,DataW.agg.injEq]at hx;have cell:∀i v,ns[i]?=some v->w.cell? ⟨g,i,none⟩=some (.int k v):=by
  intro i v hi;have jL:i<n:=by have:=(List.getElem?_eq_some_iff.1 hi).1;omega
  have h1:=bRY i jL;have bLH:xs[i]?=some xs[i]:=bVI (by omega);rw[bLH,hc,Nat.mul_one]at h1;obtain⟨m,e1,e2,_⟩:=DataW.trod_int he h1;have h2:=congrArg (fun l=>l[i]?) hx.1;simp only[bUV,hi,bLH,e2,Option.map_some]at h2;have bQT:v=m:=by simpa using h2
  subst bQT;have h3:((cs.toList.drop i).take 1)[0]?=some (.int k v):=by rw[e1];rfl
  rw[List.getElem?_take,aW,List.getElem?_drop]at h3;have h4:=World.var?_cell hg hv i;rw[h4];simpa using h3
 have h0:ns[0]?=some ns[0]:=bVI (by omega);have hb:=(aRB (cell 0 _ h0)).2;refine⟨hb,id,fun i s hs=>⟨hb,id,?_⟩⟩;unfold wL at hs;rw[bUV]at hs;obtain⟨v,bAG,rfl⟩:=Option.map_eq_some_iff.1 hs;refine⟨_,by rw[Nat.zero_add];exact cell i v bAG,rfl,rfl⟩
end
theorem calls_true{P:Program}{G:Nat->Option (IntKind×List Int)}{f:FuncId}{ds:List D}(hc:Contract P G f ds [.s (.sc (.bool true))]){w:World}{vs:List Value}(hG:GlobOk G noX w)(hl:ds.length=vs.length)
  (hr:∀(i:Nat) (d:D) (v:Value),ds[i]?=some d->vs[i]?=some v->lL noX w d v):Calls P f vs.toArray w fun e w'=>e=.returned (.bool true)/\Below w.heap.size w w':=by
 refine(hc noX w vs (fun _ h=>h.elim) hG hl hr).mono ?_;rintro e w' ⟨tI,rfl,hb,g,hl,_,hr⟩
 match tI,hl with
 | [v],_ =>
  have:=hr 0 _ v rfl rfl;obtain⟨rfl,_⟩:=this;exact⟨rfl,hb⟩
end AI
end Go.Proofs.YtplagoepbghhpaaGreatDoor
end
