/- Contracts. -/
import Derived.RangeFuncFrom
import Derived.RangeFuncLeaves
import Derived.RangeFuncCalls
import Derived.Shelf.Abstract
import Derived.WalkKit
import Derived.OwnWalkIn
import Derived.TacticsInMore
import Derived.LoopNIn
import Derived.LoopIn
import Derived.RangeFuncBox
import Derived.Maps.AppendAt
import Derived.Test.YtplagoepbghhpaaGreatDoorBZivRises4
set_option linter.unusedVariables false
set_option linter.unusedSimpArgs false
set_option exponentiation.threshold 10000000
noncomputable section
open Go.IntKind(i8 i16 i32 i64 u8 u16 u32 u64)
open Go.Proofs.Tryz
open Rat renaming le_of_lt->cEA,intCast_natCast->cKC,le_refl->cFB,le_trans->cDY,intCast_add->cLT,intCast_mul->cKB,mul_assoc->cKA,zero_mul->cNS,intCast_neg->cLS,mul_pos->cEK,intCast_sub->cMU,one_mul->cNU,mul_le_mul_of_nonneg_right->cNV,div_mul_cancel->cKP
open Nat renaming le_trans->bZP,le_refl->bYT,reduceAdd->cNO,reduceSub->cNP,pow_succ->cDS,pow_pos->cBT,pow_add->cDU,zero_le->cEU,le_succ->cLV
open Int renaming emod_nonneg->cHP,toNat->cMV,eq_ofNat_of_zero_le->cDX,toNat_natCast->cCQ,natAbs_neg->cFE,mul_assoc->cFA,emod_lt_of_pos->cHQ,add_sub_cancel->cNT,natAbs_natCast->cEJ,mul_ediv_add_emod->cHO
open List renaming nil_append->cCW,cons_append->cAM,size_toArray->cAJ,length_cons->cCE,length_nil->cCF,push_toArray->cNQ,append_toArray->cNR,ext_getElem?->cCS,getElem?_eq_getElem->bZK
open Bool renaming true_and->cBV,false_and->cEC,false_or->cAU,and_eq_true->bYZ
namespace Go.Proofs.YtplagoepbghhpaaGreatDoor
namespace M
open Go AI W
theorem aSA{a b:Nat}{p:Int}(hp:1<=p)(ha:a≠0)(hb:b≠0):p+3<=(bl (cP.Xg a b (cP.Dl p a b)):Nat):=by
 have h1:=Zd ha;have h2:=wP b;have b0:=qJ ha;have key:2^(p+1).toNat<=a*2^(cP.Dl p a b)/b:=by
  rw[Nat.le_div_iff_mul_le (by omega)];have e1:2^(p+1).toNat*b<=2^((p+1).toNat+bl b):=by rw[cDU];exact Nat.mul_le_mul_left _ (Nat.le_of_lt h2)
  have e2:2^(bl a-1+cP.Dl p a b)<=a*2^(cP.Dl p a b):=by rw[cDU];exact Nat.mul_le_mul_right _ h1
  have e3:2^((p+1).toNat+bl b)<=2^(bl a-1+cP.Dl p a b):=Nat.pow_le_pow_right (by decide) (by unfold cP.Dl;omega);omega
 have:2^(p+2).toNat<=cP.Xg a b (cP.Dl p a b):=by
  have e:2^(p+2).toNat=2^(p+1).toNat*2:=by rw[<-cDS];congr 1;omega
  unfold cP.Xg;rw[e];generalize a*2^(cP.Dl p a b)/b=Q at *;omega
 have:=(rN (n:=cP.Xg a b (cP.Dl p a b)) (k:=(p+2).toNat)).2 this;omega
theorem Sz(b:Bool)(n:Nat):(zs b n:Rat)=(if b then -1 else 1)*(n:Rat):=by
 cases b
 ·show((n:Int):Rat)=_;rw[cKC];simp
 ·show((-(n:Int):Int):Rat)=_;rw[cLS,cKC,if_pos rfl];grind
theorem aUW(z:Int):zs (isNeg z) z.natAbs=z:=by
 cases h:isNeg z with
 |true=>have:=oI.1 h;show -(z.natAbs:Int)=z;omega
 |false=>have:=jB.1 h;show(z.natAbs:Int)=z;omega
theorem Kw(up:Bool){x y:Int×Int}{p:Int}{q:Rat}(hp:1<=p)(hy:y.1≠0)(hq:q*R.qz y=R.qz x) :
  (up=false->R.qz (aN (cP.vK up p x y).1 (cP.vK up p x y).2)<=q/\q<=R.qz (aN (cP.vK up p x y).1 (cP.vK up p x y).2)+R.pz (2-p)*R.ab q) /\
  (up=true->q<=R.qz (aN (cP.vK up p x y).1 (cP.vK up p x y).2)/\R.qz (aN (cP.vK up p x y).1 (cP.vK up p x y).2)<=q+R.pz (2-p)*R.ab q):=by
 rw[nY];unfold cP.vK cP.bDB;dsimp only;obtain⟨v,v1,v2,v3⟩:=aRZ (a:=x.1.natAbs) (b:=y.1.natAbs) (s:=cP.Dl p x.1.natAbs y.1.natAbs) (by omega);have bIS:=aSA (a:=x.1.natAbs) (b:=y.1.natAbs) hp;have bYL:=R.aM q;generalize hs:cP.Dl p x.1.natAbs y.1.natAbs=s at *;generalize hQ:cP.Xg x.1.natAbs y.1.natAbs s=Q at *;obtain⟨e,he⟩:∃e,e=x.2-y.2-(s:Int)-1:=⟨_,rfl⟩;rw[<-he];have pe:=R.dA e;have vq:q=(if(isNeg x.1 !=isNeg y.1)then -1 else 1)*v*R.pz e:=by
  have aVX:(x.1:Rat)=(if isNeg x.1 then -1 else 1)*(x.1.natAbs:Rat):=by rw[<-Sz,aUW]
  have aMW:(y.1:Rat)=(if isNeg y.1 then -1 else 1)*(y.1.natAbs:Rat):=by rw[<-Sz,aUW]
  have bRW:R.qz y≠0:=aVH hy;have ex:R.pz x.2=2*((2^s:Nat):Rat)*R.pz e*R.pz y.2:=by
   have:x.2=e+y.2+(s:Int)+1:=by omega
   rw[this,R.jX,R.dZ,R.iU];grind
  have e2:((if(isNeg x.1 !=isNeg y.1)then -1 else 1)*v*R.pz e)*R.qz y=R.qz x:=by
   unfold R.qz;rw[ex,aVX,aMW];have:v*(y.1.natAbs:Rat)=2*((x.1.natAbs:Rat)*((2^s:Nat):Rat)):=v1;cases isNeg x.1 <;> cases isNeg y.1 <;> simp <;> grind
  have e3:(q-(if(isNeg x.1 !=isNeg y.1)then -1 else 1)*v*R.pz e)*R.qz y=0:=by grind
  rcases Rat.mul_eq_zero.1 e3 with h |h
  ·grind
  ·exact absurd h bRW
 obtain⟨w,hw⟩:∃w,w=(if(isNeg x.1 !=isNeg y.1)then(-1:Rat)else 1)*v:=⟨_,rfl⟩;rw[<-hw]at vq;obtain⟨z,hz⟩:∃z,z=zs (isNeg x.1 !=isNeg y.1) Q:=⟨_,rfl⟩;rw[<-hz];have bKC:(z:Rat)=w\/(z%2=1/\(z:Rat)-1<w/\w<(z:Rat)+1):=by
  rw[hz,Sz,hw];rcases v3 with h |⟨h1,h2,h3⟩
  ·left;rw[h]
  ·right;refine⟨?_,?_⟩
   ·cases (isNeg x.1 !=isNeg y.1)
    ·show((Q:Nat):Int)%2=1;omega
    ·show(-(Q:Int))%2=1;omega
   ·cases (isNeg x.1 !=isNeg y.1) <;> simp <;> constructor <;> grind
 have za:z.natAbs=Q:=by rw[hz];exact mB _ _
 have bYK:R.ab q=R.ab w*R.pz e:=by rw[vq,R.fX,R.bP (cEA pe)]
 have bRA:=R.dA (2-p);unfold cS.oM
 by_cases c:(bl z.natAbs:Int)-p<=0
 ·rw[if_pos c];dsimp only;have bDR:(z:Rat)=w:=by
   rcases bKC with h |⟨h,_⟩
   ·exact h
   ·exfalso;have Wo:x.1.natAbs≠0:=by
     intro h0;rw[h0]at hQ;have:Q=0:=by
      rw[<-hQ];unfold cP.Xg;rw[Nat.zero_mul,Nat.zero_div,Nat.zero_mod,if_pos rfl]
     omega
    have:=bIS Wo (by omega);rw[za]at c;omega
  have:=R.aE (cEA bRA) bYL;rw[bDR,<-vq];constructor <;> (intro _;constructor <;> grind)
 ·rw[if_neg c];dsimp only;obtain⟨k,hk⟩:=cDX (show 0<=(bl z.natAbs:Int)-p by omega);rw[hk,cCQ,R.dZ];obtain⟨c1,c2⟩:=aUF up (z:=z) (v:=w) (k:=k) (by omega) bKC;have lit:((2^k:Nat):Rat)<=R.pz (2-p)*R.ab w:=by
   have aHM:z≠0:=by intro h0;rw[h0]at c;exact c (by show(bl 0:Int)-p<=0;rw[Vk];omega)
   have t1:=(pJ (p:=(z,0)) aHM).1;have ez:R.qz (z,0)=(z:Rat):=by unfold R.qz;dsimp only;rw[R.eB];grind
   rw[ez]at t1;have et:bB (z,0)=(bl z.natAbs:Int)-1:=by unfold bB;dsimp only;omega
   rw[et]at t1;have b2:2<=bl z.natAbs:=by omega
   have aw:R.ab (z:Rat)-1<=R.ab w:=by
    rcases bKC with h |⟨_,h1,h2⟩
    ·rw[h];grind
    ·have:=R.Vr w ((z:Rat)-w);have:R.ab ((z:Rat)-w)<=1:=by rw[R.aY];constructor <;> grind
     have:w+((z:Rat)-w)=(z:Rat):=by grind
     grind
   have e1:R.pz ((bl z.natAbs:Int)-1)=2*R.pz ((bl z.natAbs:Int)-2):=by rw[<-R.jX];congr 1;omega
   have e2:1<=R.pz ((bl z.natAbs:Int)-2):=by rw[<-R.eB];exact R.cF (by omega)
   have e3:((2^k:Nat):Rat)=R.pz (2-p)*R.pz ((bl z.natAbs:Int)-2):=by rw[<-R.iU,<-R.lP,<-hk];congr 1;omega
   rw[e3];have:=R.aE (cEA bRA) (show 0<=R.ab w-R.pz ((bl z.natAbs:Int)-2) by grind);grind
  rw[bYK,vq];have l2:=R.aE (cEA pe) (show 0<=R.pz (2-p)*R.ab w-((2^k:Nat):Rat) by grind);generalize (kZ.qI up z k:Rat)=cz at *;generalize ((2^k:Nat):Rat)=K at *;generalize R.pz (2-p)=P2 at *;generalize R.pz e=E at *;generalize R.ab w=aw at *;constructor
  ·intro hu;obtain⟨d1,d2⟩:=c1 hu;have m1:=R.aE (cEA pe) (show 0<=w-cz*K by grind);have m2:=R.aE (cEA pe) (show 0<=cz*K+K-w by grind);constructor <;> grind
  ·intro hu;obtain⟨d1,d2⟩:=c2 hu;have m1:=R.aE (cEA pe) (show 0<=cz*K-w by grind);have m2:=R.aE (cEA pe) (show 0<=w+K-cz*K by grind);constructor <;> grind
theorem aXN(up:Bool){x y:Int×Int}{p:Int}(hp:1<=p/\p<=70000)(bx:bl x.1.natAbs<=100000)(b_y:bl y.1.natAbs<=100000)(ex:-110000<=x.2/\x.2<=1000)(ey:-110000<=y.2/\y.2<=1000) :
  iF (cP.vK up p x y).1 (cP.vK up p x y).2=true/\bl (aN (cP.vK up p x y).1 (cP.vK up p x y).2).1.natAbs<=70001:=by
 unfold cP.vK cP.bDB;dsimp only;have hs:cP.Dl p x.1.natAbs y.1.natAbs<=170002:=by unfold cP.Dl;omega
 have hQ:bl (cP.Xg x.1.natAbs y.1.natAbs (cP.Dl p x.1.natAbs y.1.natAbs))<=270006:=by
  have h1:bl (x.1.natAbs*2^(cP.Dl p x.1.natAbs y.1.natAbs))<=270002:=bZP (cB.Ll bx) (by omega);have h2:cP.Xg x.1.natAbs y.1.natAbs (cP.Dl p x.1.natAbs y.1.natAbs)<=x.1.natAbs*2^(cP.Dl p x.1.natAbs y.1.natAbs)*2+1:=by
   have:x.1.natAbs*2^(cP.Dl p x.1.natAbs y.1.natAbs)/y.1.natAbs<=x.1.natAbs*2^(cP.Dl p x.1.natAbs y.1.natAbs):=Nat.div_le_self _ _;unfold cP.Xg;generalize x.1.natAbs*2^(cP.Dl p x.1.natAbs y.1.natAbs)/y.1.natAbs=A at *;generalize x.1.natAbs*2^(cP.Dl p x.1.natAbs y.1.natAbs)=B at *;split <;> omega
  refine bZP (gM h2) (bZP (Da _ _) ?_);have h3:=Sn (x.1.natAbs*2^(cP.Dl p x.1.natAbs y.1.natAbs)) 2;have h4:bl 2=2:=rfl;have h5:bl 1=1:=rfl;omega
 generalize cP.Dl p x.1.natAbs y.1.natAbs=s at *;generalize cP.Xg x.1.natAbs y.1.natAbs s=Q at *;have hz:(zs (isNeg x.1 !=isNeg y.1) Q).natAbs=Q:=mB _ _;rw[<-hz]at hQ;generalize zs (isNeg x.1 !=isNeg y.1) Q=z at *;unfold cS.oM;split
 ·dsimp only;exact⟨iD (by omega) (by omega),bZP (wO _ _) (by omega)⟩
 ·dsimp only;have hc:=aCD up z ((bl z.natAbs:Int)-p).toNat p.toNat (by omega);generalize kZ.qI up z ((bl z.natAbs:Int)-p).toNat=c at *;exact⟨iD (by omega) (by omega),bZP (wO _ _) (by omega)⟩
theorem Yw{a b u v S C V ρ m q1 q2:Rat}(ha:a+m<=S)(hb:S+m<=b)(aWL:b-a<=ρ*S)(hu:u+m<=C)(hv:C+m<=v)(huv:v-u<=ρ*C)(m0:0<=m)(S0:0<S)(C0:0<C)(C1:C<=1)(r0:0<=ρ)(r1:ρ<=1/64)(hV:V*C=S)(h1:q1*v=a)(h2:q2*u=b) :
  q1+m<=V/\V+m<=q2/\q2<=V+3*ρ*V/\V-2*ρ*V<=q1/\0<V/\0<=q1:=by
 have rS:=R.aE (cEA S0) (show 0<=1/64-ρ by grind);have rC:=R.aE (cEA C0) (show 0<=1/64-ρ by grind);have a0:0<a:=by grind
 have u0:0<u:=by grind
 have v0:0<v:=by grind
 have V0:0<V:=by
  refine Rat.not_le.1 fun hn=>?_
  have:=R.aE (show 0<=-V by grind) (cEA C0);grind
 have bJD:0<q1:=by
  refine Rat.not_le.1 fun hn=>?_
  have:=R.aE (show 0<=-q1 by grind) (cEA v0);grind
 have bSJ:0<q2:=by
  refine Rat.not_le.1 fun hn=>?_
  have:=R.aE (show 0<=-q2 by grind) (cEA u0);grind
 have mC:=R.aE m0 (show 0<=1-C by grind);have rV:=R.aE r0 (cEA V0);have bOL:=R.aE rV (cEA C0);have rr:=R.aE bOL (show 0<=1/64-ρ by grind);have rq:=R.aE bOL r0;refine⟨?_,?_,?_,?_,V0,cEA bJD⟩
 ·refine R.cG C0 ?_;have:=R.aE (cEA bJD) (show 0<=v-C by grind);grind
 ·refine R.cG C0 ?_;have:=R.aE (cEA bSJ) (show 0<=C-u by grind);grind
 ·refine R.cG u0 ?_;have h:=R.aE (show 0<=V+3*ρ*V by grind) (show 0<=u-(C-ρ*C) by grind);have e:(V+3*ρ*V)*(C-ρ*C)=V*C+2*(ρ*V*C)-3*(ρ*V*C*ρ):=by grind
  have e2:ρ*S=ρ*V*C:=by rw[<-hV];grind
  grind
 ·refine R.cG v0 ?_;have h:=R.aE (show 0<=V-2*ρ*V by have:=R.aE (cEA V0) (show 0<=1/64-ρ by grind);grind) (show 0<=(C+ρ*C)-v by grind);have e:(V-2*ρ*V)*(C+ρ*C)=V*C-ρ*V*C-2*(ρ*V*C*ρ):=by grind
  have e2:ρ*S=ρ*V*C:=by rw[<-hV];grind
  grind
theorem aGG{p:Int×Int}:decide (eN p (0,0)<0)=decide (R.qz p<0):=by
 have h:=Cz (p:=p) (q:=(0,0));rw[R.oG (p:=(0,0)) rfl]at h
 by_cases c:R.qz p<0
 ·rw[decide_eq_true c,decide_eq_true (h.2 c)]
 ·rw[decide_eq_false c,decide_eq_false fun hh=>c (h.1 hh)]
def Kh(p:Int×Int):Prop:=bl p.1.natAbs<=100000/\-110000<=p.2/\p.2<=1000
theorem An{p:Int×Int}(hb:bl p.1.natAbs<=100000)(Be:p.1≠0)(h0:R.pz (-1300)<=R.ab (R.qz p))(h1:R.ab (R.qz p)<=2):Kh p:=by
 have a:=Dy Be h0;have b:bB p<=1:=Fc Be (by rw[R.aAY];exact h1);have c:=qJ (n:=p.1.natAbs) (by omega);unfold bB at a b;exact⟨hb,by omega,by omega⟩
theorem aEO{s c:(Int×Int)×(Int×Int)}{S C V ρ m:Rat}{p:Int}(hs:Bx s S (ρ*R.ab S) m)(hc:Bx c C (ρ*R.ab C) m)(S0:S≠0)(C0:0<C)(C1:C<=1)(r0:0<=ρ)(r1:ρ<=1/64)(hV:V*C=S)(hp:4<=p/\p<=70000)
  (z1:Kh s.1) (z2:Kh s.2) (z3:Kh c.1) (z4:Kh c.2) :
  iF (jH.aJJ p s.1 c.1 c.2).1 (jH.aJJ p s.1 c.1 c.2).2=true/\iF (jH.aJK p s.2 c.1 c.2).1 (jH.aJK p s.2 c.1 c.2).2=true /\
  Bx (aN (jH.aJJ p s.1 c.1 c.2).1 (jH.aJJ p s.1 c.1 c.2).2,aN (jH.aJK p s.2 c.1 c.2).1 (jH.aJK p s.2 c.1 c.2).2) V ((5*ρ+3*R.pz (2-p))*R.ab V) m:=by
 obtain⟨s1,s2,s3,s4,m0,s6,s7,s8⟩:=hs;obtain⟨c1,c2,c3,c4,_,c6,c7,c8⟩:=hc;rw[R.bP (cEA C0)]at c8;have rC:=R.aE (cEA C0) (show 0<=1/64-ρ by grind);have u0:0<R.qz c.1:=by grind
 have v0:0<R.qz c.2:=by grind
 have un:c.1.1≠0:=Jh (by grind);have vn:c.2.1≠0:=Jh (by grind);have e2:=R.dA (2-p);have e3:R.pz (2-p)<=1/4:=by
  have h:=R.cF (show 2-p<=-2 by omega);have h2:=R.yJ 2;rw[show -((2:Nat):Int)=-2 by rfl]at h2;rw[h2]at h;have h3:R.hf 2=1/4:=by simp[R.hf];grind
  grind
 have wL:∀up (x y:Int×Int),Kh x->Kh y->iF (cP.vK up p x y).1 (cP.vK up p x y).2=true/\kE (aN (cP.vK up p x y).1 (cP.vK up p x y).2)/\bl (aN (cP.vK up p x y).1 (cP.vK up p x y).2).1.natAbs<=100000:=by
  intro up x y hx hy;obtain⟨h1,h2⟩:=aXN up (x:=x) (y:=y) (p:=p) (by omega) hx.1 hy.1 hx.2 hy.2;refine⟨h1,⟨by omega,?_,fun h=>Eg h,fun h=>Fo h⟩,by omega⟩;unfold iF at h1;unfold aN;split
  ·dsimp only;omega
  ·rename_i Be;rw[decide_eq_false Be,cAU,bYZ]at h1;exact⟨of_decide_eq_true h1.1,of_decide_eq_true h1.2⟩
 have aOV:∀a b:Rat,b≠0->a/b*b=a:=fun a b h=>by grind
 unfold jH.aJJ jH.aJK;rw[aGG,aGG]
 by_cases hS:0<S
 ·rw[R.bP (cEA hS)]at s8;have rS:=R.aE (cEA hS) (show 0<=1/64-ρ by grind);rw[decide_eq_false (show ¬R.qz s.1<0 by grind),decide_eq_false (show ¬R.qz s.2<0 by grind),cond_false,cond_false];obtain⟨d1,d2,d3,d4,V0,q0⟩:=Yw (q1:=R.qz s.1/R.qz c.2) (q2:=R.qz s.2/R.qz c.1) s6 s7 s8 c6 c7 c8 m0 hS C0 C1 r0 r1 hV (aOV _ _ (by grind)) (aOV _ _ (by grind));have n1:=(Kw false (x:=s.1) (y:=c.2) (p:=p) (q:=R.qz s.1/R.qz c.2) (by omega) vn (aOV _ _ (by grind))).1 rfl;have n2:=(Kw true (x:=s.2) (y:=c.1) (p:=p) (q:=R.qz s.2/R.qz c.1) (by omega) un (aOV _ _ (by grind))).2 rfl;obtain⟨i1,p1,b1⟩:=wL false s.1 c.2 z1 z4;obtain⟨i2,p2,b2⟩:=wL true s.2 c.1 z2 z3;rw[R.bP q0]at n1;rw[R.bP (show 0<=R.qz s.2/R.qz c.1 by grind)]at n2;refine⟨i1,i2,p1,p2,b1,b2,m0,by grind,by grind,?_⟩;rw[R.bP (cEA V0)];generalize R.qz s.1/R.qz c.2=q1 at *;generalize R.qz s.2/R.qz c.1=q2 at *;have k1:=R.aE (cEA e2) (show 0<=V+3*ρ*V-q2 by grind);have k2:=R.aE (cEA e2) (show 0<=V-q1 by grind);have k3:=R.aE (R.aE (cEA e2) (cEA V0)) (show 0<=1/64-ρ by grind);dsimp only;grind
 ·have bQO:0 < -S:=by grind
  have eS:R.ab S=-S:=by unfold R.ab;rw[if_neg (by grind)]
  rw[eS]at s8;have rS:=R.aE (cEA bQO) (show 0<=1/64-ρ by grind);rw[decide_eq_true (show R.qz s.1<0 by grind),decide_eq_true (show R.qz s.2<0 by grind),cond_true,cond_true];have f1:-(R.qz s.2/R.qz c.2)*R.qz c.2=-R.qz s.2:=by have:=aOV (R.qz s.2) (R.qz c.2) (by grind);grind
  have f2:-(R.qz s.1/R.qz c.1)*R.qz c.1=-R.qz s.1:=by have:=aOV (R.qz s.1) (R.qz c.1) (by grind);grind
  obtain⟨d1,d2,d3,d4,V0,q0⟩:=Yw (V:=-V) (a:=-R.qz s.2) (b:=-R.qz s.1) (S:=-S) (q1:=-(R.qz s.2/R.qz c.2)) (q2:=-(R.qz s.1/R.qz c.1)) (by grind) (by grind) (by grind) c6 c7 c8 m0 bQO C0 C1 r0 r1 (by grind) f1 f2;have n1:=(Kw false (x:=s.1) (y:=c.1) (p:=p) (q:=R.qz s.1/R.qz c.1) (by omega) un (aOV _ _ (by grind))).1 rfl;have n2:=(Kw true (x:=s.2) (y:=c.2) (p:=p) (q:=R.qz s.2/R.qz c.2) (by omega) vn (aOV _ _ (by grind))).2 rfl;obtain⟨i1,p1,b1⟩:=wL false s.1 c.1 z1 z3;obtain⟨i2,p2,b2⟩:=wL true s.2 c.2 z2 z4;rw[<-R.iV,R.bP (show 0<=-(R.qz s.1/R.qz c.1) by grind)]at n1;rw[<-R.iV,R.bP q0]at n2;refine⟨i1,i2,p1,p2,b1,b2,m0,by grind,by grind,?_⟩;rw[<-R.iV,R.bP (cEA V0)];generalize R.qz s.2/R.qz c.2=q1 at *;generalize R.qz s.1/R.qz c.1=q2 at *;have k1:=R.aE (cEA e2) (show 0<=-V+3*ρ*-V+q2 by grind);have k2:=R.aE (cEA e2) (show 0<=-V+q1 by grind);have k3:=R.aE (R.aE (cEA e2) (cEA V0)) (show 0<=1/64-ρ by grind);dsimp only;grind
theorem Km{p:Int×Int}(h:Kh p):Kh (kW.xK p):=by
 obtain⟨a,b⟩:=h;refine⟨?_,b⟩;show bl (-p.1).natAbs<=_;rw[cFE];exact a
theorem aAQ{a b:Int×Int}(h:0<R.qz a)(aWL:R.qz a<=R.qz b):fZ.tI a b=1:=by
 unfold fZ.tI;have z:R.qz (0,0)=0:=R.oG rfl;rw[if_neg (fun hh=>by have:=Cz.1 hh;grind),if_pos (yY.2 (by grind))]
theorem aAR{a b:Int×Int}(h:R.qz b<0):fZ.tI a b=-1:=by
 unfold fZ.tI;have z:R.qz (0,0)=0:=R.oG rfl;rw[if_pos (Cz.2 (by grind))]
theorem aLU{s c:(Int×Int)×(Int×Int)}{S C V ρ m:Rat}{p:Int}(hs:Bx s S (ρ*R.ab S) m)(hc:Bx c C (ρ*R.ab C) m)(S0:S≠0)(C0:C≠0)(C1:R.ab C<=1)(r0:0<=ρ)(r1:ρ<=1/64)(hV:V*C=S)(hp:4<=p/\p<=70000)
  (z1:Kh s.1) (z2:Kh s.2) (z3:Kh c.1) (z4:Kh c.2) :
  fZ.tI c.1 c.2≠0/\iF (jH.Mq p s.1 s.2 c.1 c.2).1 (jH.Mq p s.1 s.2 c.1 c.2).2=true/\iF (jH.Mr p s.1 s.2 c.1 c.2).1 (jH.Mr p s.1 s.2 c.1 c.2).2=true /\
  Bx (aN (jH.Mq p s.1 s.2 c.1 c.2).1 (jH.Mq p s.1 s.2 c.1 c.2).2,aN (jH.Mr p s.1 s.2 c.1 c.2).1 (jH.Mr p s.1 s.2 c.1 c.2).2) V ((5*ρ+3*R.pz (2-p))*R.ab V) m:=by
 have lo:=hc.lo;have hi:=hc.hi;have m0:=hc.m0;have wd:=hc.wd
 by_cases c0:0<C
 ·rw[R.bP (cEA c0)]at C1 wd;have rC:=R.aE (cEA c0) (show 0<=1/64-ρ by grind);have sg:=aAQ (a:=c.1) (b:=c.2) (by grind) (by grind);unfold jH.Mq jH.Mr;rw[sg,show((1:Int)==-1)=false from rfl];simp only[cond_false];exact⟨by decide,aEO hs hc S0 c0 C1 r0 r1 hV hp z1 z2 z3 z4⟩
 ·have e:R.ab C=-C:=by unfold R.ab;rw[if_neg (by grind)]
  rw[e]at C1 wd;have rC:=R.aE (show 0<=-C by grind) (show 0<=1/64-ρ by grind);have sg:=aAR (a:=c.1) (b:=c.2) (by grind);unfold jH.Mq jH.Mr;rw[sg,show((-1:Int)==-1)=true from rfl];simp only[cond_true];have sV:=hs.neg;have bMJ:=hc.neg;rw[<-R.iV]at sV bMJ;have s0:-S≠0:=by grind
  have c1:0 < -C:=by grind
  have v1:V*-C=-S:=by grind
  have q:=aEO sV bMJ s0 c1 C1 r0 r1 v1 hp (Km z2) (Km z1) (Km z4) (Km z3);dsimp only at q;exact⟨by decide,q⟩
theorem aEV{s:(Int×Int)×(Int×Int)}{V W m:Rat}{n:Int}(pl:kE s.1)(ph:kE s.2)(m0:0<=m)(lo:R.qz s.1+m<=V)(hi:V+m<=R.qz s.2)(wd:R.qz s.2-R.qz s.1<=W)(hn:1<=n/\n<=70000)(h1:R.ab (R.qz s.1)<=R.pz 1100)(h2:R.ab (R.qz s.2)<=R.pz 1100) :
  yD false s.1 n=true/\yD true s.2 n=true/\Bx (shD false s.1 n,shD true s.2 n) V (W+R.pz (1-n)*(R.ab (R.qz s.1)+R.ab (R.qz s.2))) m:=by
 have aVR:∀{p:Int×Int},kE p->R.ab (R.qz p)<=R.pz 1100->bIV p:=by
  intro p hp hv;refine⟨hp,?_⟩
  by_cases h0:p.1=0
  ·have hb:M.bl p.1.natAbs=0:=by rw[h0];rfl
   have:=hp.2.2.1 h0;omega
  ·have:=Fc h0 hv;unfold bB at this;omega
 obtain⟨a1,a2⟩:=Rf (up:=false) (n:=n) (aVR pl h1) hn.1;obtain⟨a3,a4⟩:=Rf (up:=true) (n:=n) (aVR ph h2) hn.1;have n1:=(Hg false s.1 hn.1).1 rfl;have n2:=(Hg true s.2 hn.1).2 rfl;have b1:=Ao false s.1 n.toNat;have b2:=Ao true s.2 n.toNat;rw[show((n.toNat:Nat):Int)=n by omega]at b1 b2;exact⟨a1,a3,a2,a4,by dsimp only;omega,by dsimp only;omega,m0,by dsimp only;grind,by dsimp only;grind,by dsimp only;grind⟩
theorem aBB{s:(Int×Int)×(Int×Int)}{V W m:Rat}{n:Int}(h:Bx s V W m)(hn:1<=n/\n<=70000)(h1:R.ab (R.qz s.1)<=R.pz 1100)(h2:R.ab (R.qz s.2)<=R.pz 1100) :
  yD false s.1 n=true/\yD true s.2 n=true/\Bx (shD false s.1 n,shD true s.2 n) V (W+R.pz (1-n)*(R.ab (R.qz s.1)+R.ab (R.qz s.2))) m :=
 aEV h.pl h.ph h.m0 h.lo h.hi h.wd hn h1 h2
theorem aRJ{a b:Int×Int}{p:Int}(aWL:R.qz a<=R.qz b)(h:(0<R.qz a/\(R.qz b-R.qz a)*R.pz p<=R.qz a)\/(R.qz b<0/\(R.qz b-R.qz a)*R.pz p<=-R.qz b)):Gr.bBJ a b p=true:=by
 unfold Gr.bBJ
 by_cases he:eN a b=0
 ·rw[he];rfl
 ·rw[show(eN a b==0)=false from beq_eq_false_iff_ne.2 he,cond_false];obtain⟨n,hn,sg,hw⟩:∃n:Int×Int,(bif decide (fZ.tI a b<0)then b else a)=n/\fZ.tI a b≠0/\(n.1≠0/\(R.qz b-R.qz a)*R.pz p<=R.ab (R.qz n)):=by
   rcases h with ⟨h1,h2⟩ |⟨h1,h2⟩
   ·rw[aAQ h1 aWL];exact⟨a,rfl,by decide,Jh (by grind),by rw[R.bP (cEA h1)];exact h2⟩
   ·rw[aAR h1];refine⟨b,rfl,by decide,Jh (by grind),?_⟩;have:R.ab (R.qz b)=-R.qz b:=by unfold R.ab;rw[if_neg (by grind)]
    rw[this];exact h2
  rw[show(fZ.tI a b==0)=false from beq_eq_false_iff_ne.2 sg,cond_false,hn];have w0:(bQ.oA b (-a.1,a.2)).1≠0:=aLG he;have wq:R.qz (bQ.oA b (-a.1,a.2))=R.qz b-R.qz a:=by rw[Tt,oQ];grind
  generalize bQ.oA b (-a.1,a.2)=w at *;obtain⟨n0,hw⟩:=hw;rw[<-wq]at hw;have wp:0<=R.qz w:=by rw[wq];grind
  obtain⟨t1,t2⟩:=pJ w0;obtain⟨u1,u2⟩:=pJ n0;rw[R.bP wp]at t1 t2;have pp:=R.dA p
  by_cases ht:bB w+p=bB n
  ·rw[show(bB w+p !=bB n)=false from by rw[ht];exact bne_self_eq_false _,cond_false];refine decide_eq_true (lN.2 ?_);have un:∀x:Int×Int,R.qz (aJI x)*R.pz (bB x)=R.ab (R.qz x):=by
    intro x;rw[Sq];unfold aJI R.qz;dsimp only;rw[cKC,cKA,<-R.iU];congr 2;unfold bB;omega
   have e1:=un w;have e2:=un n;rw[R.bP wp]at e1;rw[<-ht,R.iU]at e2;refine R.cG (q:=R.pz (bB w)*R.pz p) (cEK (R.dA _) pp) ?_;have e3:R.qz (aJI w)*(R.pz (bB w)*R.pz p)=R.qz w*R.pz p:=by rw[<-cKA,e1]
   grind
  ·rw[show(bB w+p !=bB n)=true from bne_iff_ne.2 ht,cond_true];refine decide_eq_true ?_;have:R.pz (bB w+p)<R.pz (bB n+1):=by
    rw[R.iU];have:=R.aE (show 0<=R.qz w-R.pz (bB w) by grind) (cEA pp);grind
   have:=R.xI.1 this;omega
end M
open Go.Value(int bool slice)
open AI.S(sc ints)
namespace W
open Go AI M
namespace sF
def Rb(x:gQ):Prop:=aR x/\((dv x).1≠0->eN (((dv x).1.natAbs:Nat),(dv x).2) (1,0)<=0/\-524288<=(dv x).2+(bl (dv x).1.natAbs:Nat)-1)
end sF
namespace qL
def E:=mE [(45,mL.aJ),(158,Ki.aJ),(14,aQM.aJ),(203,Cc.aJ)] 62 [] [(10,[30,31,32]),(4,[1,20,21,22]),(3,[1])] [3]
def aF:=bd f201
theorem aX:Nk E aF:=nk
def J3(a:Nat)(b:Nat->Bool)(c:Nat->List Int)(d:Nat->Int):=mU E f201 aF 3 [(A.v (V.one (L.rows 3 a fun i=>[sc (bool (b i)),ints u64 (c i),sc (int i64 (d i))])),none)]
def L4(a:Nat)(b:Nat->Bool)(c:Nat->List Int)(d:Nat->Int)(e:Nat)(f:Nat->Bool)(g:Nat->List Int)(h:Nat->Int) j k:=tM E f201 aF 4 [(A.v (V.one (L.rows 3 a fun i=>[sc (bool (b i)),ints u64 (c i),sc (int i64 (d i))])),none),(A.v (V.one (L.rows 3 e fun i=>[sc (bool (f i)),ints u64 (g i),sc (int i64 (h i))])),none),cA j,cA k]
def Ix(a:Nat)(b:Nat->Bool)(c:Nat->List Int)(d:Nat->Int) e f:=tM E f201 aF 10 [(A.v (V.one (L.rows 3 a fun i=>[sc (bool (b i)),ints u64 (c i),sc (int i64 (d i))])),none),cA e,cA f]
theorem start p (a:gQ) (b:gQ):aI E f201 aF [D.s (sc (int i64 p)),D.rows 3 2 fun i=>[sc (bool (t2 a b i).fst),ints u64 (t2 a b i).snd.fst,sc (int i64 (t2 a b i).snd.snd)]]=letI A:=some [D.s (sc (int i64 1))];aB (decide (p<1)) A (aB (decide (67000<p)) A (qL.J3 2 (fun i=>(t2 a b i).fst) (fun i=>(t2 a b i).snd.fst) fun i=>(t2 a b i).snd.snd)):=eJ aX
theorem iL a b c d:J3 a b c d=qL.L4 a (fun i=>b i) (fun i=>c i) (fun i=>d i) a (fun i=>b i) (fun i=>c i) (fun i=>d i) (a:Int) 0:=cJ aX
theorem wU a b c d e f g h j k:L4 a b c d e f g h j k=aB (decide (k<j)) (if 0<=k/\k<(e:Int)then aO (aR (f k.toNat,g k.toNat,h k.toNat)) (qL.L4 a (fun i=>b i) (fun i=>c i) (fun i=>d i) e (fun i=>f i) (fun i=>g i) (fun i=>h i) j (i64.wrap (k+1)))else none) (qL.Ix a (fun i=>b i) (fun i=>c i) (fun i=>d i) (a:Int) 0):=lJ aX
theorem sG a b c d e f:Ix a b c d e f=letI F:=some [D.s (sc (int i64 5))];letI C:=(b f.toNat,c f.toNat,d f.toNat);letI B:=(false,c f.toNat,d f.toNat);letI A:=(isNeg (aN 1 0).fst,M6.dg (aN 1 0).fst.natAbs,(aN 1 0).snd);aB (decide (f<e)) (if 0<=f/\f<(a:Int)then aB ((↑(c f.toNat).length:Int)==(0:Int)) (qL.Ix a (fun i=>b i) (fun i=>c i) (fun i=>d i) e (i64.wrap (f+1))) (aO ((-9223372036854775808:Int)<=(1:Int)/\(1:Int)<(9223372036854775808:Int)) (aO (aR B/\aR A) (aO (aR C) (aB (decide (0<mG (bQ.nU (dv B) (dv A)) (bQ.nT (dv B) (dv A)))) F (aB (decide ((if(dv C).fst=0 then(0:Int)else d f.toNat+(↑(bl (M6.val (c f.toNat))):Int)-(1:Int))<(-524288:Int))) F (qL.Ix a (fun i=>b i) (fun i=>c i) (fun i=>d i) e (i64.wrap (f+1))))))))else none) (some [D.s (sc (int i64 0))]):=lJ aX
abbrev Rb:=sF.Rb
def sp(p:Int)(a:gQ×gQ):Prop×List D:=((1<=p/\p<=67000)/\Rb a.1/\Rb a.2,[.s (.sc (.int .i64 0))])
theorem LB(n:Nat)(f:Nat->gQ)(hn:n<=1000)(hf:∀i,i<n->Rb (f i)):∀d k:Nat,k+d=n->Ix n (fun i=>(f i).1) (fun i=>(f i).2.1) (fun i=>(f i).2.2) (n:Int) (k:Int)=some [.s (.sc (.int .i64 0))]
 |0,k,h=>by rw[sG,aL]
 |d+1,k,h=>by
  have e:i64.wrap ((k:Int)+1)=((k+1:Nat):Int):=by rw[wrap_i64];omega
  have r:=LB n f hn hf d (k+1) (by omega);obtain⟨hx,ht⟩:=hf k (by omega);have hz:=M6.eF hx.Jy;have ha:(dv (f k)).1.natAbs=M6.val (f k).2.1:=iT ((f k).1,(f k).2.1);rw[sG,aQ,aW,cCQ,e]
  by_cases h0:(f k).2.1.length=0
  ·rw[cD];exact r
  ·have hv:(dv (f k)).1≠0:=fun hc=>h0 (hz.2 (by omega))
   obtain⟨t1,t2⟩:=ht hv;have n1:aN 1 0=(1,0):=by decide +kernel
   have pn:kE (1,0):=⟨by decide +kernel,⟨by decide,by decide⟩,fun h=>absurd h (by decide),fun _=>by decide⟩;have v1:=dX ((1,0):Int×Int);have ok:aR (false,(f k).2.1,(f k).2.2):=⟨⟨hx.1.1,fun hf=>(by cases hf),hx.1.len⟩,hx.2⟩;have vx:dv (false,(f k).2.1,(f k).2.2)=((((dv (f k)).1.natAbs:Nat):Int),(dv (f k)).2):=by rw[ha];rfl
   have bVR:((f k).1,(f k).2.1,(f k).2.2)=f k:=rfl;simp only[n1,v1,vx,bVR];rw[bJ,gP ⟨by decide,by decide⟩,gP ⟨ok,dP pn⟩,gP hx];have bSB:¬0<mG (bQ.nU ((((dv (f k)).1.natAbs:Nat):Int),(dv (f k)).2) (1,0)) (bQ.nT ((((dv (f k)).1.natAbs:Nat):Int),(dv (f k)).2) (1,0)):=Int.not_lt.2 t1;have bSA:¬(f k).2.2+((bl (M6.val (f k).2.1):Nat):Int)-1 < -524288:=by
    rw[ha]at t2;have:(dv (f k)).2=(f k).2.2:=rfl;omega
   rw[aL bSB,if_neg hv,aL bSA];exact r
theorem LA(n:Nat)(f:Nat->gQ)(hn:n<=1000)(hf:∀i,i<n->Rb (f i)):∀d k:Nat,k+d=n->L4 n (fun i=>(f i).1) (fun i=>(f i).2.1) (fun i=>(f i).2.2) n (fun i=>(f i).1) (fun i=>(f i).2.1) (fun i=>(f i).2.2) (n:Int) (k:Int)=some [.s (.sc (.int .i64 0))]
 |0,k,h=>by rw[wU,aL];exact LB n f hn hf n 0 (by omega)
 |d+1,k,h=>by
  have e:i64.wrap ((k:Int)+1)=((k+1:Nat):Int):=by rw[wrap_i64];omega
  rw[wU,aQ,aW,cCQ,gP (hf k (by omega)).1,e];exact LA n f hn hf d (k+1) (by omega)
theorem spec:hI E f201 aF (pN .i64) (bHM (.pair sB (.pair (sI .u64) (sN .i64))) (false,[],0)) sp:=by
 rintro p a ⟨⟨p0,p1⟩,h⟩;have hf:∀i,i<2->Rb (t2 a.1 a.2 i):=fun i hi=>by
  obtain rfl |rfl:i=0\/i=1:=by omega
  ·exact h.1
  ·exact h.2
 refine(start p a.1 a.2).trans ?_;rw[aL,aL,iL];exact LA 2 (fun i=>t2 a.1 a.2 i) (by decide) hf 2 0 (by omega)
def aJ:dK:=orc2 (pN .i64) (bHM (.pair sB (.pair (sI .u64) (sN .i64))) (false,[],0)) sp
theorem ok:OK 201 aJ:=(fJ E aF (aA mL.ok (aA Ki.ok (aA aQM.ok (aA Cc.ok aD)))) func201).nF rfl spec
end qL
namespace Is
def E:=mE [(67,wF.aJ),(201,qL.aJ)] 21 [20] [(3,[1,2])] [3]
def aF:=bd f156
theorem aX:Nk E aF:=nk
def J3 a b c d e f g:=mU E f156 aF 3 [cA a,dR 1 44 [cX b,gJ c,dC d,cX e,gJ f,dC g]]
theorem start a c d e f g b:aI E f156 aF [D.agg [sc (bool a),ints u64 c,sc (int i64 d),sc (bool e),ints u64 f,sc (int i64 g)],D.s (sc (int i64 b))]=letI A:=some [D.s (sc (int i64 1))];aB (decide (b<1)) A (aB (decide (67000<b)) A (Is.J3 b a c d e f g)):=eJ aX
theorem iL a b c d e f g:J3 a b c d e f g=aO (fA (b,c,d,e,f,g)) (aO ((1<=a/\a<=67000)/\qL.Rb (b,c,d)/\qL.Rb (e,f,g)) (some [D.s (sc (int i64 0))])):=cJ aX
def sp(s:yA)(p:Int):Prop×List D:=((1<=p/\p<=67000)/\fA s/\sF.Rb (iH s)/\sF.Rb (iI s),[.s (.sc (.int .i64 0))])
theorem spec:hI E f156 aF zQ (pN .i64) sp:=by
 rintro s p ⟨⟨p0,p1⟩,h1,h2,h3⟩;refine(start s.1 s.2.1 s.2.2.1 s.2.2.2.1 s.2.2.2.2.1 s.2.2.2.2.2 p).trans ?_;rw[aL,aL]
 first
  |exact(gP h1).trans (gP ⟨⟨p0,p1⟩,h2,h3⟩)
  | (rw[iL];exact(gP h1).trans (gP ⟨⟨p0,p1⟩,h2,h3⟩))
def aJ:dK:=orc2 zQ (pN .i64) sp
theorem ok:OK 156 aJ:=(fJ E aF (aA wF.ok (aA qL.ok aD)) func156).nF rfl spec
end Is
namespace cR
def E:=mE [(156,Is.aJ),(120,Iu.aJ),(158,Ki.aJ),(159,fZ.aJ),(160,bI.aJ)] 61 [17] [(10,[1,2,4,9,10]),(13,[1,4,9,10])] [10,13]
def aF:=bd f116
theorem aX:Nk E aF:=nk
def bIX a b c d e f g h i j k l m n o p q:=mU E f116 aF 10 [cA a,dR 1 44 [cX b,gJ c,dC d,cX e,gJ f,dC g],dR 2 44 [cX h,sc (slice none 0 0),dC i,cX j,sc (slice none 0 0),dC k],dR 3 29 [cX l,gJ m,dC n],dR 4 29 [cX o,gJ p,dC q]]
def Sw a b c d e f g h i j:=mU E f116 aF 13 [cA a,dR 1 44 [cX b,sc (slice none 0 0),dC c,cX d,sc (slice none 0 0),dC e],dR 2 29 [cX f,sc (slice none 0 0),dC g],dR 3 29 [cX h,gJ i,dC j]]
def bAZ a b c d e f g h i j k:=mU E f116 aF 13 [cA a,dR 1 44 [cX b,sc (slice none 0 0),dC c,cX d,sc (slice none 0 0),dC e],dR 2 29 [cX f,gJ g,dC h],dR 3 29 [cX i,gJ j,dC k]]
theorem start a c d e f g b:aI E f116 aF [D.agg [sc (bool a),ints u64 c,sc (int i64 d),sc (bool e),ints u64 f,sc (int i64 g)],D.s (sc (int i64 b))]=letI C:=(false,f,g);letI B:=(false,c,d);letI A:=(a,c,d,e,f,g);aO ((1<=b/\b<=67000)/\fA A/\sF.Rb (iH A)/\sF.Rb (iI A)) (aO (aR B/\aR C) (aC (mG (bQ.nU (dv B) (dv C)) (bQ.nT (dv B) (dv C))) fun h=>aB (decide (0<h)) (cR.bIX b a c d e f g false 0 false 0 false f g false c d) (cR.bIX b a c d e f g false 0 false 0 false c d false f g))):=eJ aX
theorem bBB a b c d e f g h i j k l m n o p q:bIX a b c d e f g h i j k l m n o p q=letI A:=(b,c,d,e,f,g);aO (fA A) (aC (fZ.tI (dv (iH A)) (dv (iI A))) fun r=>aB (r==0) (cR.Sw a h i j k false 0 o p q) (cR.bAZ a h i j k l m n o p q)):=cJ aX
theorem zM a b c d e f g h i j:Sw a b c d e f g h i j=letI A:=i64.wrap (a+2);letI C:=bI.sW (dv (h,i,j)) A;letI B:=bI.sA (dv (f,[],g)) A;aO (bI.aIP (h,i,j) A) (aC (isNeg C.fst) fun k=>aC (M6.dg C.fst.natAbs) fun l=>aC C.snd fun m=>aO (bI.aIP (f,[],g) A) (aC (isNeg B.fst) fun n=>aC (M6.dg B.fst.natAbs) fun o=>aC B.snd fun p=>some [D.agg [sc (bool k),ints u64 l,sc (int i64 m),sc (bool n),ints u64 o,sc (int i64 p)],D.s (sc (int i64 0))])):=cJ aX
theorem aUU a b c d e f g h i j k:bAZ a b c d e f g h i j k=letI A:=i64.wrap (a+2);letI C:=bI.sA (dv (f,g,h)) A;letI B:=bI.sW (dv (i,j,k)) A;aO (bI.aIP (i,j,k) A) (aC (isNeg B.fst) fun l=>aC (M6.dg B.fst.natAbs) fun m=>aC B.snd fun n=>aO (bI.aIP (f,g,h) A) (aC (isNeg C.fst) fun o=>aC (M6.dg C.fst.natAbs) fun p=>aC C.snd fun q=>some [D.agg [sc (bool l),ints u64 m,sc (int i64 n),sc (bool o),ints u64 p,sc (int i64 q)],D.s (sc (int i64 0))])):=cJ aX
def aAF(x:gQ):gQ:=(false,x.2.1,x.2.2)
def Bi(s:yA):gQ:=bif decide (0<eN (dv (aAF (iH s))) (dv (aAF (iI s))))then aAF (iH s)else aAF (iI s)
def uF(s:yA):gQ:=bif fZ.tI (dv (iH s)) (dv (iI s))==0 then(false,[],0)else bif decide (0<eN (dv (aAF (iH s))) (dv (aAF (iI s))))then aAF (iI s)else aAF (iH s)
def aCI(s:yA)(p:Int):Prop:=((1<=p/\p<=67000)/\fA s/\sF.Rb (iH s)/\sF.Rb (iI s))/\(bI.sp (Bi s) (p+2)).1/\(bI.sp (uF s) (p+2)).1
def sp(s:yA)(p:Int):Prop×List D:=(aCI s p,[wG (bI.sW (dv (Bi s)) (p+2)) (bI.sA (dv (uF s)) (p+2)),.s (.sc (.int .i64 0))])
theorem JN{s:yA}{p:Int}(hp:1<=p/\p<=67000)(hs:fA s){n f:gQ}(hf:(bI.sp f (p+2)).1)(hn:(bI.sp (bif fZ.tI (dv (iH s)) (dv (iI s))==0 then(false,[],0)else n) (p+2)).1) :
  bIX p s.1 s.2.1 s.2.2.1 s.2.2.2.1 s.2.2.2.2.1 s.2.2.2.2.2 false 0 false 0 n.1 n.2.1 n.2.2 f.1 f.2.1 f.2.2=some [wG (bI.sW (dv f) (p+2)) (bI.sA (dv (bif fZ.tI (dv (iH s)) (dv (iI s))==0 then(false,[],0)else n)) (p+2)),.s (.sc (.int .i64 0))]:=by
 have w:i64.wrap (p+2)=p+2:=wrap_i64;rw[bBB,gP hs,aH];show aB (fZ.tI (dv (iH s)) (dv (iI s))==0) _ _=_
 by_cases c:fZ.tI (dv (iH s)) (dv (iI s))=0
 ·rw[show(fZ.tI (dv (iH s)) (dv (iI s))==0)=true from beq_iff_eq.2 c,cond_true]at hn ⊢;show Sw _ _ _ _ _ _ _ _ _ _=_;rw[zM];simp only[w,aH];exact(gP hf).trans ((gP hn).trans rfl)
 ·rw[show(fZ.tI (dv (iH s)) (dv (iI s))==0)=false from beq_eq_false_iff_ne.2 c,cond_false]at hn ⊢;show bAZ _ _ _ _ _ _ _ _ _ _ _=_;rw[aUU];simp only[w,aH];exact(gP hf).trans ((gP hn).trans rfl)
theorem spec:hI E f116 aF zQ (pN .i64) sp:=by
 rintro s p ⟨h1,h2,h3⟩;refine(start s.1 s.2.1 s.2.2.1 s.2.2.2.1 s.2.2.2.2.1 s.2.2.2.2.2 p).trans ?_;have ab:∀x:gQ,aR x->aR (aAF x):=fun x hx=>⟨⟨hx.1.1,fun hf=>(by cases hf),hx.1.len⟩,hx.2⟩
 refine(gP h1).trans ((gP ⟨ab _ h1.2.1.1,ab _ h1.2.1.2.1⟩).trans ?_);rw[aH];unfold sp;unfold Bi uF at *;dsimp only;show aB (decide (0<eN (dv (aAF (iH s))) (dv (aAF (iI s))))) _ _=_
 by_cases c:0<eN (dv (aAF (iH s))) (dv (aAF (iI s)))
 ·rw[aQ c];rw[decide_eq_true c,cond_true,cond_true]at *;exact JN h1.1 h1.2.1 h2 h3
 ·rw[aL c];rw[decide_eq_false c,cond_false,cond_false]at *;exact JN h1.1 h1.2.1 h2 h3
def aJ:dK:=orc2 zQ (pN .i64) sp
theorem ok:OK 116 aJ:=(fJ E aF (aA Is.ok (aA Iu.ok (aA Ki.ok (aA fZ.ok (aA bI.ok aD))))) func116).nF rfl spec
end cR
namespace nI
def E:=mE [(156,Is.aJ),(157,fV.aJ)] 27 [9] [] []
def aF:=bd f115
theorem aX:Nk E aF:=nk
theorem start a c d e f g b:aI E f115 aF [D.agg [sc (bool a),ints u64 c,sc (int i64 d),sc (bool e),ints u64 f,sc (int i64 g)],D.s (sc (int i64 b))]=letI F:=(a,c,d,e,f,g);letI A:=i64.wrap (b+2);letI C:=fV.Mi (dv (e,f,g)) A;letI B:=fV.Mh (dv (a,c,d)) A;aO ((1<=b/\b<=67000)/\fA F/\sF.Rb (iH F)/\sF.Rb (iI F)) (aO (fV.aRR (a,c,d) A) (aC (isNeg B.fst) fun h=>aC (M6.dg B.fst.natAbs) fun i=>aC B.snd fun j=>aO (fV.aRR (e,f,g) A) (aC (isNeg C.fst) fun k=>aC (M6.dg C.fst.natAbs) fun l=>aC C.snd fun m=>some [D.agg [sc (bool h),ints u64 i,sc (int i64 j),sc (bool k),ints u64 l,sc (int i64 m)],D.s (sc (int i64 0))]))):=eJ aX
def Wy(s:yA)(p:Int):Prop:=((1<=p/\p<=67000)/\fA s/\sF.Rb (iH s)/\sF.Rb (iI s))/\(fV.sp (iH s) (p+2)).1/\(fV.sp (iI s) (p+2)).1
def sp(s:yA)(p:Int):Prop×List D:=(Wy s p,[wG (fV.Mh (dv (iH s)) (p+2)) (fV.Mi (dv (iI s)) (p+2)),.s (.sc (.int .i64 0))])
theorem spec:hI E f115 aF zQ (pN .i64) sp:=by
 rintro s p ⟨h1,h2,h3⟩;have p0:=h1.1;refine(start s.1 s.2.1 s.2.2.1 s.2.2.2.1 s.2.2.2.2.1 s.2.2.2.2.2 p).trans ?_;have w:i64.wrap (p+2)=p+2:=wrap_i64;simp only[w];rw[gP h1];simp only[aH];exact(gP h2).trans ((gP h3).trans rfl)
def aJ:dK:=orc2 zQ (pN .i64) sp
theorem ok:OK 115 aJ:=(fJ E aF (aA Is.ok (aA fV.ok aD)) func115).nF rfl spec
end nI
end W
namespace R
def fv(fn:Int)(x:Rat)(k:Int):Rat:=if fn=1 then Sf x k else if fn=2 then Cf x k else Sf x k/Cf x k
end R
namespace M
open Go AI W
def mg(p:Int):Rat:=if p<2500 then 0 else R.pz (-p-1500)
theorem aVS(p:Int):0<=mg p:=by
 unfold mg;split
 ·exact cFB
 ·exact cEA (R.dA _)
theorem aVT(p:Int):mg p<=R.pz (-p-1500):=by
 unfold mg;split
 ·exact cEA (R.dA _)
 ·exact cFB
structure lB(u v:Int×Int)(a:Rat)(p:Int):Prop where
 pu:kE u
 pv:kE v
 a0:R.pz (-1074)<=a
 a1:a<=79/100
 lu:R.ab (R.qz u)<=a
 lv:a<=R.ab (R.qz v)
 wd:R.ab (R.qz v)-R.ab (R.qz u)<=R.pz (-p-23)*a
theorem aXO{p:Int}(hp:-6<=p):R.pz (-p-23)<=1/131072:=by
 have:=R.cF (show -p-23<=-17 by omega);have e:=R.fU 0 (n:=17) (c:=131072) (by norm_cast);rw[R.eB,show(0:Int)-((17:Nat):Int)=-17 by rfl]at e;grind
theorem lB.more{u v:Int×Int}{a:Rat}{p:Int}(h:lB u v a p)(hp:-6<=p):0<a/\3/4*a<=R.ab (R.qz u)/\R.ab (R.qz v)<=5/4*a/\R.ab (R.qz v)<=4/5/\u.1≠0/\v.1≠0/\-1075<=bB u/\-1075<=bB v:=by
 obtain⟨_,_,a0,a1,lu,lv,wd⟩:=h;have ap:0<a:=by have:=R.dA (-1074);grind
 have bRV:=aXO hp;have m:=R.aE (cEA ap) (show 0<=1/131072-R.pz (-p-23) by grind);have u1:3/4*a<=R.ab (R.qz u):=by grind
 have aDK:u.1≠0:=Jh (by intro hz;rw[hz,R.bP cFB]at u1;grind);have aJG:v.1≠0:=Jh (by intro hz;rw[hz,R.bP cFB]at lv;grind);have t:R.pz (-1075)*2=R.pz (-1074):=by have:=R.mP (-1074);rw[show(-1074:Int)-1=-1075 by rfl]at this;exact this
 have tp:=R.dA (-1075);exact⟨ap,u1,by grind,by grind,aDK,aJG,Dy aDK (by grind),Dy aJG (by grind)⟩
theorem aLM{u v:Int×Int}{a:Rat}{p n:Int}(h:lB u v a p)(hp:-6<=p/\p<=66000)(hn:p+14<=n/\n<=p+150/\1<=n):bCJ u n/\bCJ v n/\Bx (fV.uM u n,fV.tH v n) (R.sn a) (R.pz (-p-12)*R.ab (R.sn a)) (mg p):=by
 obtain⟨ap,u1,v1,v2,aDK,aJG,tu,tv⟩:=h.more hp.1;obtain⟨pu,pv,a0,a1,lu,lv,wd⟩:=h;have nu:=Xa pu aDK (p:=n) (by grind) (by omega) (by omega);have nv:=Xa pv aJG (p:=n) (by grind) (by omega) (by omega);refine⟨nu,nv,nu.pl,nv.ph,bZP nu.bl (by decide),bZP nv.bh (by decide),aVS p,?_,?_,?_⟩
 ·dsimp only;have h1:=nu.lo;have h2:=R.aDV (x:=R.ab (R.qz u)) (y:=a) (by rw[R.bP (R.aM _)];grind) (by rw[R.bP (by grind)];grind) lu;have h3:=aVT p;have h4:R.pz (-p-1500)<=R.pz (bB u-n-270):=R.cF (by omega);grind
 ·dsimp only;have h2:=R.aDV (x:=a) (y:=R.ab (R.qz v)) (by rw[R.bP (by grind)];grind) (by rw[R.bP (R.aM _)];grind) lv;unfold mg;split
  ·have:=nv.hi;grind
  ·have:=nv.mh (by omega);have h4:R.pz (-p-1500)<=R.pz (bB v-n-270):=R.cF (by omega);grind
 ·dsimp only;have k1:=nu.wd;have k2:=nv.wd;have k3:=nu.hi;have k4:=nv.lo;have pz1:=R.dA (bB v-n-270);have bJU:=R.aDW (x:=R.ab (R.qz u)) (y:=R.ab (R.qz v)) (by rw[R.bP (R.aM _)];grind) (by rw[R.bP (R.aM _)];grind);rw[R.bP (show 0<=R.ab (R.qz v)-R.ab (R.qz u) by grind)]at bJU;have l2:=R.Dm (R.sn (R.ab (R.qz v))-R.sn (R.ab (R.qz u)));obtain⟨s1,s2⟩:=R.aDY (cEA ap) (show a<=4/5 by grind);rw[R.bP (show 0<=R.sn a by grind)];have bCO:=R.cF (show -n-1<=-p-15 by omega);have k1:=cDY k1 (cNV bCO (R.aM (R.qz u)));have k2:=cDY k2 (cNV bCO (R.aM (R.qz v)));have bNR:R.pz (-p-15)=256*R.pz (-p-23):=by
   have:=R.fU (-p-15) (n:=8) (c:=256) (by norm_cast);rw[show -p-15-((8:Nat):Int)=-p-23 by omega]at this;grind
  have bGN:R.pz (-p-12)=2048*R.pz (-p-23):=by
   have:=R.fU (-p-12) (n:=11) (c:=2048) (by norm_cast);rw[show -p-12-((11:Nat):Int)=-p-23 by omega]at this;grind
  have zp:=R.dA (-p-23);rw[bNR]at k1 k2;rw[bGN];generalize R.pz (-p-23)=z at *;have m1:=R.aE (cEA zp) (show 0<=5/4*a-R.ab (R.qz v) by grind);have m2:=R.aE (cEA zp) (show 0<=a-R.ab (R.qz u) by grind);have m3:=R.aE (cEA zp) (show 0<=R.sn a-4/5*a by grind);have m4:=R.aE (cEA zp) (cEA ap);grind
theorem aZU{n:Nat}(h:n<=1048576):R.wI<=R.pz (-(n:Int)):=by
 rw[R.yJ];exact R.Cv h
theorem aZZ{u v:Int×Int}{a:Rat}{p n:Int}(h:lB u v a p)(hp:-6<=p/\p<=66000)(hn:p+14<=n/\n<=p+150/\1<=n):bIY u n/\bIY v n/\Bx (bI.sW v n,bI.sA u n) (R.cs a) (R.pz (-p-12)*R.ab (R.cs a)) (mg p):=by
 obtain⟨ap,u1,v1,v2,aDK,aJG,tu,tv⟩:=h.more hp.1;obtain⟨pu,pv,a0,a1,lu,lv,wd⟩:=h;have nu:=Ol (x:=u) (p:=n) (by grind) (fun _=>by omega) (by omega);have nv:=Ol (x:=v) (p:=n) (by grind) (fun _=>by omega) (by omega);have he:2*R.wI<=R.pz (-p-1501):=by
  have:=aZU (n:=100000) (by omega);have h2:=R.cF (show -((100000:Nat):Int)+1<=-p-1501 by omega);rw[R.jX]at h2;grind
 have e1500:R.pz (-p-1500)=2*R.pz (-p-1501):=by rw[<-R.jX];congr 1;omega
 have pp:=R.dA (-p-1501);have m1:=R.aGE (x:=R.ab (R.qz u)) (y:=a) (R.aM _) lu (by grind);have m2:=R.aGE (x:=a) (y:=R.ab (R.qz v)) (cEA ap) lv (by grind);have mm:=aVT p;obtain⟨c1,c2⟩:=R.Yx (r:=a) (by rw[R.bP (cEA ap)];grind);refine⟨nu,nv,nv.pl,nu.ph,bZP nv.bl (by decide),bZP nu.bh (by decide),aVS p,?_,?_,?_⟩
 ·dsimp only;have:=nv.ml aJG;have h4:R.pz (-p-1499)<=R.pz (bB v-n-270):=R.cF (by omega);have bGM:R.pz (-p-1499)=2*R.pz (-p-1500):=by rw[<-R.jX];congr 1;omega
  grind
 ·dsimp only
  by_cases c:2*bB u+8 < -n
  ·have e:bI.sA u n=(1,0):=by
    have et:aT.jG u=bB u:=by unfold aT.jG bB;rw[if_neg aDK]
    unfold bI.sA;rw[et,if_neg aDK,if_pos c]
   unfold mg;rw[aW,e,oP];grind
  ·have:=nu.mh aDK c;have h4:R.pz (-p-1499)<=R.pz (bB u-n-270):=R.cF (by omega);have bGM:R.pz (-p-1499)=2*R.pz (-p-1500):=by rw[<-R.jX];congr 1;omega
   grind
 ·dsimp only;have k1:=nu.wd;have k2:=nv.wd;have k3:=nu.lo;have k4:=nv.hi;have bJU:=R.aPC (x:=R.ab (R.qz u)) (y:=R.ab (R.qz v)) (by rw[R.bP (R.aM _)];grind) (by rw[R.bP (R.aM _)];grind);rw[R.bP (show 0<=R.ab (R.qz v)-R.ab (R.qz u) by grind)]at bJU;have l2:=R.oH (R.cs (R.ab (R.qz v))-R.cs (R.ab (R.qz u)));rw[R.bP (show 0<=R.cs a by grind)];have bCO:=R.cF (show -n-1<=-p-15 by omega);have k1:=cDY k1 bCO;have k2:=cDY k2 bCO;have bNR:R.pz (-p-15)=256*R.pz (-p-23):=by
   have:=R.fU (-p-15) (n:=8) (c:=256) (by norm_cast);rw[show -p-15-((8:Nat):Int)=-p-23 by omega]at this;grind
  have bGN:R.pz (-p-12)=2048*R.pz (-p-23):=by
   have:=R.fU (-p-12) (n:=11) (c:=2048) (by norm_cast);rw[show -p-12-((11:Nat):Int)=-p-23 by omega]at this;grind
  have zp:=R.dA (-p-23);have h5:R.pz (-p-1501)<=R.pz (-p-23):=R.cF (by omega);rw[bNR]at k1 k2;rw[bGN];generalize R.pz (-p-23)=z at *;have m3:=R.aE (cEA zp) (show 0<=R.cs a-17/25 by grind);have m4:=R.aE (cEA zp) (show 0<=1-a by grind);grind
def rS(x:Int×Int)(w q:Int):(Int×Int)×(Int×Int):=(fV.Mh (bA.aAC x w) q,fV.Mi (bA.aAD x w) q)
def bBL(x:Int×Int)(w:Int):yA:=nM (bA.aAC x w) (bA.aAD x w)
def rC(x:Int×Int)(w q:Int):(Int×Int)×(Int×Int):=(bI.sW (dv (cR.Bi (bBL x w))) q,bI.sA (dv (cR.uF (bBL x w))) q)
def rD(x:Int×Int)(w q:Int):((Int×Int)×(Int×Int))×((Int×Int)×(Int×Int)):=VTurned.trn (rS x w q) (rC x w q) (bA.cQ x w).toNat
def rQ (x : Int × Int) (w p : Int) : (Int × Int) × (Int × Int) :=
  (aN (jH.Mq (p + 8) (rD x w (p + 2)).1.1 (rD x w (p + 2)).1.2 (rD x w (p + 2)).2.1 (rD x w (p + 2)).2.2).1 (jH.Mq (p + 8) (rD x w (p + 2)).1.1 (rD x w (p + 2)).1.2 (rD x w (p + 2)).2.1 (rD x w (p + 2)).2.2).2,
   aN (jH.Mr (p + 8) (rD x w (p + 2)).1.1 (rD x w (p + 2)).1.2 (rD x w (p + 2)).2.1 (rD x w (p + 2)).2.2).1 (jH.Mr (p + 8) (rD x w (p + 2)).1.1 (rD x w (p + 2)).1.2 (rD x w (p + 2)).2.1 (rD x w (p + 2)).2.2).2)
def rE(fn:Int)(x:Int×Int)(w p:Int):(Int×Int)×(Int×Int):=bif fn==1 then(rD x w (p+2)).1 else bif fn==2 then(rD x w (p+2)).2 else rQ x w p
theorem aDQ{x:Int×Int}(h:x.1≠0):aT.jG x=bB x:=by unfold aT.jG bB;rw[if_neg h]
theorem aVC{x:gQ}{p:Int}(hx:aR x)(hp:1<=p/\p<=67100)(ht:-1200<=bB (dv x))(n:bCJ (dv x) p):fV.aRR x p:=by
 refine⟨hx,hp,fun h0=>?_⟩;rw[aDQ h0];refine⟨by omega,n.pl,n.ph,lN.2 ?_,n.bJM,n.okB⟩;have h1:=n.lo;have h2:=n.hi;have h3:=R.dA (bB (dv x)-p-270);grind
theorem aWO{x:gQ}{p:Int}(hx:aR x)(hp:1<=p/\p<=67100)(ht:(dv x).1≠0->-1200<=bB (dv x))(n:bIY (dv x) p):bI.aIP x p:=by
 refine⟨hx,hp,fun h0=>?_⟩;have:=ht h0;rw[aDQ h0];exact⟨by omega,n.bJM h0,n.okB h0⟩
theorem Vc(a b:Int×Int):dv (cR.aAF (iH (nM a b)))=((a.1.natAbs:Int),a.2):=by
 show((M6.val (M6.dg a.1.natAbs):Int),a.2)=_;rw[M6.bZ]
theorem Vd(a b:Int×Int):dv (cR.aAF (iI (nM a b)))=((b.1.natAbs:Int),b.2):=by
 show((M6.val (M6.dg b.1.natAbs):Int),b.2)=_;rw[M6.bZ]
theorem Vs{x:gQ}(hx:aR x):aR (cR.aAF x):=⟨⟨hx.1.1,fun hf=>(by cases hf),hx.1.len⟩,hx.2⟩
theorem tW(p:Int×Int):R.ab (R.qz ((p.1.natAbs:Int),p.2))=R.ab (R.qz p):=by rw[Ec,R.bP (R.aM _)]
theorem Yo{a b:Int×Int}(hs:fZ.tI a b≠0)(ha:kE a)(hb:kE b) :
  (aR (cR.Bi (nM a b))/\aR (cR.uF (nM a b))) /\
  ((R.ab (R.qz b)<R.ab (R.qz a)/\dv (cR.Bi (nM a b))=((a.1.natAbs:Int),a.2)/\dv (cR.uF (nM a b))=((b.1.natAbs:Int),b.2)) \/
  (R.ab (R.qz a)<=R.ab (R.qz b)/\dv (cR.Bi (nM a b))=((b.1.natAbs:Int),b.2)/\dv (cR.uF (nM a b))=((a.1.natAbs:Int),a.2))):=by
 have oa:aR (iH (nM a b)):=dP ha;have ob:aR (iI (nM a b)):=dP hb;unfold cR.Bi cR.uF;rw[pQ,pS,show(fZ.tI a b==0)=false from beq_eq_false_iff_ne.2 hs,cond_false,Vc,Vd];have hc:=yY (p:=((a.1.natAbs:Int),a.2)) (q:=((b.1.natAbs:Int),b.2));rw[Ec,Ec]at hc
 by_cases h:R.ab (R.qz b)<R.ab (R.qz a)
 ·rw[decide_eq_true (hc.2 h),cond_true,cond_true,Vc,Vd];exact⟨⟨Vs oa,Vs ob⟩,Or.inl ⟨h,rfl,rfl⟩⟩
 ·rw[decide_eq_false (fun hh=>h (hc.1 hh)),cond_false,cond_false,Vc,Vd];exact⟨⟨Vs ob,Vs oa⟩,Or.inr ⟨Rat.not_lt.1 h,rfl,rfl⟩⟩
theorem aRL{a:Int×Int}{x:gQ}(hx:aR x)(e:dv x=a)(h1:R.ab (R.qz a)<=1)(ht:a.1≠0->-1200<=bB a):sF.Rb x:=by
 refine⟨hx,fun h0=>?_⟩;rw[e]at h0 ⊢;have:=ht h0;refine⟨lN.2 (by rw[Ec,oP];exact h1),?_⟩;unfold bB at this;omega
structure bYN(x:Int×Int)(p:Int)(r:Rat):Prop where
 so:nI.Wy (bBL x (p+80)) (p+12)
 co:cR.aCI (bBL x (p+80)) (p+12)
 s:Bx (rS x (p+80) (p+14)) (R.sn r) (R.pz (-p-12)*R.ab (R.sn r)) (mg p)
 c:Bx (rC x (p+80) (p+14)) (R.cs r) (R.pz (-p-12)*R.ab (R.cs r)) (mg p)
 s1:R.ab (R.qz (rS x (p+80) (p+14)).1)<=1/\R.ab (R.qz (rS x (p+80) (p+14)).2)<=1
 c1:R.ab (R.qz (rC x (p+80) (p+14)).1)<=1/\R.ab (R.qz (rC x (p+80) (p+14)).2)<=1
theorem aMT{s:(Int×Int)×(Int×Int)}{V W m:Rat}(h:Bx s V W m)(h1:-1<=R.qz s.1)(h2:R.qz s.2<=1):R.ab (R.qz s.1)<=1/\R.ab (R.qz s.2)<=1:=by
 have:=h.lo;have:=h.hi;have:=h.m0;constructor <;> (rw[R.aY];constructor <;> grind)
def gS(l h:Int×Int)(q:Int):(Int×Int)×(Int×Int):=(fV.Mh l q,fV.Mi h q)
def gC(l h:Int×Int)(q:Int):(Int×Int)×(Int×Int):=(bI.sW (dv (cR.Bi (nM l h))) q,bI.sA (dv (cR.uF (nM l h))) q)
structure bNZ(l h:Int×Int)(p n:Int)(r:Rat):Prop where
 so:nI.Wy (nM l h) (n-2)
 co:cR.aCI (nM l h) (n-2)
 s:Bx (gS l h n) (R.sn r) (R.pz (-p-12)*R.ab (R.sn r)) (mg p)
 c:Bx (gC l h n) (R.cs r) (R.pz (-p-12)*R.ab (R.cs r)) (mg p)
 s1:R.ab (R.qz (gS l h n).1)<=1/\R.ab (R.qz (gS l h n).2)<=1
 c1:R.ab (R.qz (gC l h n).1)<=1/\R.ab (R.qz (gC l h n).2)<=1
theorem aKR{l h:Int×Int}{p n:Int}{r:Rat}(hp:-6<=p/\p<=66000)(hn:p+14<=n/\n<=p+150/\3<=n)(pl:kE l)(ph:kE h)(lo:R.qz l<=r)(hi:r<=R.qz h)(wd:R.qz h-R.qz l<=R.pz (-p-23)*R.ab r)(rg:R.pz (-1074)<=R.ab r)(nl:R.ab r<=79/100):bNZ l h p n r:=by
 have aBM:p+14<=n/\n<=p+150/\1<=n:=by omega
 have bRV:=aXO hp.1;have rp:0<R.ab r:=by have:=R.dA (-1074);grind
 have m:=R.aE (cEA rp) (show 0<=1/131072-R.pz (-p-23) by grind);have tok:∀q:Int,q=n-2->(1<=q/\q<=67000):=fun q hq=>by omega
 have oa:aR (iH (nM l h)):=dP pl;have ob:aR (iI (nM l h)):=dP ph;have ea:dv (iH (nM l h))=l:=pQ _ _;have eb:dv (iI (nM l h))=h:=pS _ _;have sk:fA (nM l h):=yH pl ph (lN.2 (by grind));have aJY:n-2+2=n:=by omega
 have fin:∀(a:Rat),a=R.ab r->R.ab (R.qz l)<=4/5->R.ab (R.qz h)<=4/5 ->
   (l.1≠0/\-1075<=bB l)->(h.1≠0/\-1075<=bB h) ->
   bCJ l n->bCJ h n ->
   lB (dv (cR.uF (nM l h))) (dv (cR.Bi (nM l h))) a p->aR (cR.Bi (nM l h))->aR (cR.uF (nM l h)) ->
   Bx (gS l h n) (R.sn r) (R.pz (-p-12)*R.ab (R.sn r)) (mg p)->-1<=R.qz (gS l h n).1->R.qz (gS l h n).2<=1->bNZ l h p n r:=by
  intro a ha l1 l2 t1 t2 n1 n2 par of on bs b1 b2;obtain⟨cu,cv,cb⟩:=aZZ par hp aBM;obtain⟨_,_,_,_,_,_,tu,tv⟩:=par.more hp.1;have ec:R.cs a=R.cs r:=by rw[ha];exact R.aPD r
  rw[ec]at cb;refine⟨⟨⟨tok _ rfl,sk,aRL oa ea (by grind) (fun _=>by omega),aRL ob eb (by grind) (fun _=>by omega)⟩,?_,?_⟩,⟨⟨tok _ rfl,sk,aRL oa ea (by grind) (fun _=>by omega),aRL ob eb (by grind) (fun _=>by omega)⟩,?_,?_⟩,bs,cb,aMT bs b1 b2,aMT cb ?_ cu.one⟩
  ·rw[aJY];exact aVC oa (by omega) (by rw[ea];omega) (by rw[ea];exact n1)
  ·rw[aJY];exact aVC ob (by omega) (by rw[eb];omega) (by rw[eb];exact n2)
  ·rw[aJY];exact aWO of (by omega) (fun _=>by omega) cv
  ·rw[aJY];exact aWO on (by omega) (fun _=>by omega) cu
  ·have h1:=cb.wd;have h2:=cb.hi;have h3:=cb.m0;obtain⟨c1,c2⟩:=R.Yx (r:=r) (by grind);rw[R.bP (show 0<=R.cs r by grind)]at h1;have z12:R.pz (-p-12)<=1:=by rw[<-R.eB];exact R.cF (by omega)
   have:=R.aE (show 0<=R.cs r by grind) (show 0<=1-R.pz (-p-12) by grind);show -1<=R.qz (bI.sW (dv (cR.Bi (nM l h))) n);dsimp only at h1 h2;grind
 have t75:R.pz (-1075)*2=R.pz (-1074):=by have:=R.mP (-1074);rw[show(-1074:Int)-1=-1075 by rfl]at this;exact this
 by_cases c:0<r
 ·have er:R.ab r=r:=R.bP (cEA c);rw[er]at nl wd rg rp m;have al:R.ab (R.qz l)=R.qz l:=R.bP (by grind);have ah:R.ab (R.qz h)=R.qz h:=R.bP (by grind);have par:lB l h r p:=⟨pl,ph,rg,nl,by rw[al];exact lo,by rw[ah];exact hi,by rw[al,ah];exact wd⟩;obtain⟨_,_,_,v2,aDK,aJG,tu,tv⟩:=par.more hp.1;obtain⟨nu,nv,bs⟩:=aLM par hp aBM;have sg:fZ.tI l h≠0:=by rw[aAQ (by grind) (by grind)];decide
  obtain⟨⟨of,on⟩,hd⟩:=Yo sg pl ph;have n1:isNeg l.1=false:=jB.2 (by have:=kB.1 (show 0<R.qz l by grind);omega);have n2:isNeg h.1=false:=jB.2 (by have:=kB.1 (show 0<R.qz h by grind);omega);have eS:gS l h n=(fV.uM l n,fV.tH h n):=by
   unfold gS fV.Mh fV.Mi;rw[if_neg aDK,if_neg aJG,n1,n2];rfl
  refine fin r er.symm (by grind) (by grind) ⟨aDK,tu⟩ ⟨aJG,tv⟩ nu nv ?_ of on (by rw[eS];exact bs) ?_ ?_
  ·rcases hd with ⟨d1,d2,d3⟩ |⟨d1,d2,d3⟩
   ·grind
   ·show lB (dv (cR.uF (nM _ _))) (dv (cR.Bi (nM _ _))) r p;rw[d2,d3];exact⟨yL pl,yL ph,rg,nl,by rw[tW,al];exact lo,by rw[tW,ah];exact hi,by rw[tW,tW,al,ah];exact wd⟩
  ·rw[eS];have:=nu.pos;dsimp only;grind
  ·rw[eS];exact nv.one
 ·have er:R.ab r=-r:=by
   unfold R.ab
   by_cases hr:0<=r
   ·have:r=0:=by grind
    rw[this,R.bP cFB]at rp;grind
   ·rw[if_neg hr]
  rw[er]at nl wd rg rp m;have al:R.ab (R.qz l)=-R.qz l:=by rw[<-R.iV];exact R.bP (by grind)
  have ah:R.ab (R.qz h)=-R.qz h:=by rw[<-R.iV];exact R.bP (by grind)
  have par:lB h l (-r) p:=⟨ph,pl,rg,nl,by rw[ah];grind,by rw[al];grind,by rw[al,ah];grind⟩;obtain⟨_,_,_,v2,aDK,aJG,tu,tv⟩:=par.more hp.1;obtain⟨nu,nv,bs⟩:=aLM par hp aBM;have sg:fZ.tI l h≠0:=by rw[aAR (by grind)];decide
  obtain⟨⟨of,on⟩,hd⟩:=Yo sg pl ph;have n1:isNeg l.1=true:=oI.2 (yI.1 (by grind));have n2:isNeg h.1=true:=oI.2 (yI.1 (by grind));have eS:gS l h n=(kW.xK (fV.tH l n),kW.xK (fV.uM h n)):=by
   unfold gS fV.Mh fV.Mi;rw[if_neg aDK,if_neg aJG,n1,n2];rfl
  have bn:=bs.neg;have es:-R.sn (-r)=R.sn r:=by rw[R.vI];grind
  have bXW:R.ab (R.sn (-r))=R.ab (R.sn r):=by rw[R.vI,R.iV]
  rw[es,bXW]at bn;refine fin (-r) er.symm (by grind) (by grind) ⟨aJG,tv⟩ ⟨aDK,tu⟩ nv nu ?_ of on (by rw[eS];exact bn) ?_ ?_
  ·show lB (dv (cR.uF (nM _ _))) (dv (cR.Bi (nM _ _))) (-r) p;rcases hd with ⟨d1,d2,d3⟩ |⟨d1,d2,d3⟩
   ·rw[d2,d3];exact⟨yL ph,yL pl,rg,nl,by rw[tW,ah];grind,by rw[tW,al];grind,by rw[tW,tW,al,ah];grind⟩
   ·rw[d2,d3];exact⟨yL pl,yL ph,rg,nl,by rw[tW,al];grind,by rw[tW,ah];grind,by rw[tW,tW,al,ah];grind⟩
  ·rw[eS];show -1<=R.qz (-(fV.tH l n).1,(fV.tH l n).2);rw[oQ];have:=nv.one;grind
  ·rw[eS];show R.qz (-(fV.uM h n).1,(fV.uM h n).2)<=1;rw[oQ];have:=nu.pos;grind
theorem aXB{x:Int×Int}{p k:Int}(hp:1<=p/\p<=66000)(h:bAP x (p+80) k):bYN x p (R.qz x-(k:Rat)*(R.pi/2)):=by
 have nl:=R.qD h.aBE;obtain⟨_,_,pl,ph,lo,hi,wd,rg⟩:=h;rw[show 57-(p+80)=-p-23 by omega]at wd;obtain⟨a,b,c,d,e,f⟩:=aKR (n:=p+14) ⟨by omega,hp.2⟩ (by omega) pl ph lo hi wd rg nl;rw[show p+14-2=p+12 by omega]at a b;exact⟨a,b,c,d,e,f⟩
end M
namespace M
open Go AI W
theorem Tn{up:Bool}{p:Int×Int}{n:Int}(hn:1<=n)(h:R.ab (R.qz p)<=1):R.ab (R.qz (shD up p n))<=1:=by
 unfold shD cS.oM;rw[nY];split
 ·exact h
 ·rename_i hk;dsimp only;have h0:p.1≠0:=by
   intro hz;rw[hz]at hk;exact hk (by show(bl 0:Int)-n<=0;rw[Vk];omega)
  have ht:=Fc h0 (by rw[R.eB];exact h);unfold bB at ht;obtain⟨k,aAA⟩:=cDX (show 0<=(bl p.1.natAbs:Int)-n by omega);rw[aAA,cCQ];obtain⟨j,hj⟩:=cDX (show 0<=-(p.2+(k:Int)) by omega);have hz:p.1.natAbs<=2^j*2^k:=by
   rw[Sq]at h;rw[<-cDU];have e1:R.pz p.2*((2^(j+k):Nat):Rat)=1:=by rw[<-R.dZ,show p.2+((j+k:Nat):Int)=0 by omega,R.eB]
   have P:(0:Rat)<=((2^(j+k):Nat):Rat):=by exact_mod_cast cEU _
   have m:=R.aE P (show 0<=1-(p.1.natAbs:Rat)*R.pz p.2 by grind);have:(p.1.natAbs:Rat)<=((2^(j+k):Nat):Rat):=by
    have e2:((2^(j+k):Nat):Rat)*((p.1.natAbs:Rat)*R.pz p.2)=(p.1.natAbs:Rat):=by
     rw[Rat.mul_comm,cKA,e1];grind
    grind
   exact_mod_cast this
  have hp:(0:Int)<((2^k:Nat):Int):=by have:=cBT (n:=k) (show 0<2 by decide);omega
  have bOW:(p.1.natAbs:Int)<=((2^j:Nat):Int)*((2^k:Nat):Int):=by exact_mod_cast hz
  have hc:-((2^j:Nat):Int)<=kZ.qI up p.1 k/\kZ.qI up p.1 k<=((2^j:Nat):Int):=by
   have fl:∀w:Int,(w.natAbs:Int)<=((2^j:Nat):Int)*((2^k:Nat):Int)->-((2^j:Nat):Int)<=w/((2^k:Nat):Int)/\w/((2^k:Nat):Int)<=((2^j:Nat):Int):=by
    intro w hw;constructor
    ·refine Int.le_ediv_of_mul_le hp ?_;rw[Int.neg_mul];omega
    ·exact Int.ediv_le_of_le_mul hp (by omega)
   unfold kZ.qI;cases up with
   |false=>rw[cond_false];exact fl _ bOW
   |true =>
    rw[cond_true];have:=fl (-p.1) (by rw[cFE];exact bOW);omega
  generalize kZ.qI up p.1 k=c at *;have e1:R.pz (p.2+(k:Int))*((2^j:Nat):Rat)=1:=by rw[<-R.dZ,show p.2+(k:Int)+(j:Int)=0 by omega,R.eB]
  have pp:=R.dA (p.2+(k:Int));have c1:-((2^j:Nat):Rat)<=(c:Rat):=by
   have:((-((2^j:Nat):Int):Int):Rat)<=(c:Rat):=by exact_mod_cast hc.1
   rwa [cLS,cKC]at this
  have c2:(c:Rat)<=((2^j:Nat):Rat):=by
   have:(c:Rat)<=(((2^j:Nat):Int):Rat):=by exact_mod_cast hc.2
   rwa [cKC]at this
  have m1:=R.aE (cEA pp) (show 0<=(c:Rat)+((2^j:Nat):Rat) by grind);have m2:=R.aE (cEA pp) (show 0<=((2^j:Nat):Rat)-(c:Rat) by grind);rw[R.aY];constructor <;> grind
def On(s:(Int×Int)×(Int×Int)):Prop:=R.ab (R.qz s.1)<=1/\R.ab (R.qz s.2)<=1
theorem On.neg{s:(Int×Int)×(Int×Int)}(h:On s):On (kW.xK s.2,kW.xK s.1):=by
 constructor
 ·show R.ab (R.qz (-s.2.1,s.2.2))<=1;rw[oQ,R.iV];exact h.2
 ·show R.ab (R.qz (-s.1.1,s.1.2))<=1;rw[oQ,R.iV];exact h.1
theorem On.trn{s c:(Int×Int)×(Int×Int)}(hs:On s)(hc:On c):∀n:Nat,On (VTurned.trn s c n).1/\On (VTurned.trn s c n).2:=by
 intro n
 induction n generalizing s c with
 |zero=>exact⟨hs,hc⟩
 |succ n ih=>exact ih hc hs.neg
theorem Ik{s:(Int×Int)×(Int×Int)}{V ρ m:Rat}(h:Bx s V (ρ*R.ab V) m)(r1:ρ<=1/64)(V0:V≠0) :
  63/64*R.ab V<=R.ab (R.qz s.1)/\R.ab (R.qz s.1)<=65/64*R.ab V/\63/64*R.ab V<=R.ab (R.qz s.2)/\R.ab (R.qz s.2)<=65/64*R.ab V/\(0<V->0<R.qz s.1)/\(V<0->R.qz s.2<0)/\0<R.ab V:=by
 obtain⟨_,_,_,_,m0,lo,hi,wd⟩:=h;have a0:0<R.ab V:=by
  unfold R.ab;split <;> grind
 have k:=R.aE (cEA a0) (show 0<=1/64-ρ by grind);generalize hρ:ρ*R.ab V=W at *
 by_cases c:0<V
 ·have e:R.ab V=V:=R.bP (cEA c);rw[e]at a0 k hρ;rw[e];rw[R.bP (show 0<=R.qz s.1 by grind),R.bP (show 0<=R.qz s.2 by grind)];refine⟨by grind,by grind,by grind,by grind,fun _=>by grind,fun _=>by grind,c⟩
 ·have e:R.ab V=-V:=by unfold R.ab;rw[if_neg (by grind)]
  rw[e]at a0 k hρ;rw[e];rw[<-R.iV,R.bP (show 0<=-R.qz s.1 by grind),<-R.iV,R.bP (show 0<=-R.qz s.2 by grind)];refine⟨by grind,by grind,by grind,by grind,fun _=>by grind,fun _=>by grind,by grind⟩
theorem xU{s:(Int×Int)×(Int×Int)}{V W W' m:Rat}(h:Bx s V W m)(hw:W<=W'):Bx s V W' m:=by
 obtain⟨a,b,c,d,e,f,g,i⟩:=h;exact⟨a,b,c,d,e,f,g,cDY i hw⟩
def eE(fn:Int)(x:Int×Int)(p:Int):(Int×Int)×(Int×Int):=(shD false (rE fn x (p+80) (p+12)).1 (p+20),shD true (rE fn x (p+80) (p+12)).2 (p+20))
structure bHJ(fn:Int)(x:Int×Int)(p k:Int):Prop where
 so:nI.Wy (bBL x (p+80)) (p+12)
 co:cR.aCI (bBL x (p+80)) (p+12)
 sS:fA (nM (rS x (p+80) (p+14)).1 (rS x (p+80) (p+14)).2)
 sC:fA (nM (rC x (p+80) (p+14)).1 (rC x (p+80) (p+14)).2)
 t1:fA (nM (rD x (p+80) (p+14)).1.1 (rD x (p+80) (p+14)).1.2)
 t2:fA (nM (rD x (p+80) (p+14)).2.1 (rD x (p+80) (p+14)).2.2)
 z:Kh (rD x (p+80) (p+14)).1.1/\Kh (rD x (p+80) (p+14)).1.2/\Kh (rD x (p+80) (p+14)).2.1/\Kh (rD x (p+80) (p+14)).2.2
 q0:fZ.tI (rD x (p+80) (p+14)).2.1 (rD x (p+80) (p+14)).2.2≠0
 q1:iF (jH.Mq (p+20) (rD x (p+80) (p+14)).1.1 (rD x (p+80) (p+14)).1.2 (rD x (p+80) (p+14)).2.1 (rD x (p+80) (p+14)).2.2).1 (jH.Mq (p+20) (rD x (p+80) (p+14)).1.1 (rD x (p+80) (p+14)).1.2 (rD x (p+80) (p+14)).2.1 (rD x (p+80) (p+14)).2.2).2=true
 q2:iF (jH.Mr (p+20) (rD x (p+80) (p+14)).1.1 (rD x (p+80) (p+14)).1.2 (rD x (p+80) (p+14)).2.1 (rD x (p+80) (p+14)).2.2).1 (jH.Mr (p+20) (rD x (p+80) (p+14)).1.1 (rD x (p+80) (p+14)).1.2 (rD x (p+80) (p+14)).2.1 (rD x (p+80) (p+14)).2.2).2=true
 re:fA (nM (rE fn x (p+80) (p+12)).1 (rE fn x (p+80) (p+12)).2)
 s1:yD false (rE fn x (p+80) (p+12)).1 (p+20)=true
 s2:yD true (rE fn x (p+80) (p+12)).2 (p+20)=true
 v0:R.fv fn (R.qz x) k≠0
 vl:R.pz (-1100)<=R.ab (R.fv fn (R.qz x) k)
 vh:R.ab (R.fv fn (R.qz x) k)<=R.pz 1090
 bx:Bx (eE fn x p) (R.fv fn (R.qz x) k) (R.pz (-p-8)*R.ab (R.fv fn (R.qz x) k)) (mg p)
 bits:(bl (eE fn x p).1.1.natAbs:Int)<=p+21/\(bl (eE fn x p).2.1.natAbs:Int)<=p+21
 ok:bQ.kT (eE fn x p).2 (-(eE fn x p).1.1,(eE fn x p).1.2)=true
 thin:Gr.bBJ (eE fn x p).1 (eE fn x p).2 p=true
 on:fn<=2->On (eE fn x p)
theorem uG{p:Int×Int}(h:0<R.ab (R.qz p)):p.1≠0:=Jh fun hz=>by rw[hz,R.bP cFB]at h;exact Rat.lt_irrefl h
theorem aEG(k:Int)(s c:Rat):R.ab (R.rs k s c)=if k%2=0 then R.ab s else R.ab c:=by
 have h4:k%4=0\/k%4=1\/k%4=2\/k%4=3:=by omega
 unfold R.rs;rcases h4 with h |h |h |h
 ·have h2:k%2=0:=by omega
  simp[h,h2,R.iV]
 ·have h2:k%2=1:=by omega
  simp[h,h2,R.iV]
 ·have h2:k%2=0:=by omega
  simp[h,h2,R.iV]
 ·have h2:k%2=1:=by omega
  simp[h,h2,R.iV]
theorem aEL(k:Int)(s c:Rat):R.ab (R.rc k s c)=if k%2=0 then R.ab c else R.ab s:=by
 have h4:k%4=0\/k%4=1\/k%4=2\/k%4=3:=by omega
 unfold R.rc;rcases h4 with h |h |h |h
 ·have h2:k%2=0:=by omega
  simp[h,h2,R.iV]
 ·have h2:k%2=1:=by omega
  simp[h,h2,R.iV]
 ·have h2:k%2=0:=by omega
  simp[h,h2,R.iV]
 ·have h2:k%2=1:=by omega
  simp[h,h2,R.iV]
theorem wS{fn:Int}{x:Int×Int}{p k:Int}(hx:aDD x)(hp:1<=p/\p<=66000)(hf:1<=fn/\fn<=3)(h:bAP x (p+80) k):bHJ fn x p k:=by
 obtain⟨so,co,bs,bc,os,oc⟩:=aXB hp h;have rn:=R.qD h.aBE;have rg:=h.rg;have hq:=h.q;obtain⟨r,hr⟩:∃r,r=R.qz x-(k:Rat)*(R.pi/2):=⟨_,rfl⟩;have bNM:R.Sf (R.qz x) k=R.rs k (R.sn r) (R.cs r):=by rw[hr];rfl
 have bNN:R.Cf (R.qz x) k=R.rc k (R.sn r) (R.cs r):=by rw[hr];rfl
 rw[<-hr]at bs bc rn rg;have t75:R.pz (-1075)*2=R.pz (-1074):=by have:=R.mP (-1074);rw[show(-1074:Int)-1=-1075 by rfl]at this;exact this
 have bJH:=R.dA (-1075);have bTE:R.pz (-1075)<=1/2:=by
  have:=R.cF (show(-1074:Int)<=0 by omega);rw[R.eB]at this;grind
 obtain⟨c1,c2⟩:=R.Yx (r:=r) (by grind);have s0:R.pz (-1075)<=R.ab (R.sn r)/\R.ab (R.sn r)<=1:=by
  rw[<-R.aLK (by grind)];obtain⟨a,b⟩:=R.aDY (R.aM r) (by grind);constructor <;> grind
 have s1:R.pz (-1075)<=R.ab (R.cs r)/\R.ab (R.cs r)<=1:=by
  rw[R.bP (show 0<=R.cs r by grind)];constructor <;> grind
 have sS:R.pz (-1075)<=R.ab (R.Sf (R.qz x) k)/\R.ab (R.Sf (R.qz x) k)<=1:=by
  rw[bNM,aEG];split <;> assumption
 have sC:R.pz (-1075)<=R.ab (R.Cf (R.qz x) k)/\R.ab (R.Cf (R.qz x) k)<=1:=by
  rw[bNN,aEL];split <;> assumption
 have Nb:∀v:Rat,R.pz (-1075)<=R.ab v->v≠0:=fun v hv hz=>by rw[hz,R.bP cFB]at hv;grind
 have S0:=Nb _ sS.1;have C0:=Nb _ sC.1;obtain⟨z,hz⟩:∃z,z=R.pz (-p-20):=⟨_,rfl⟩;have z0:=R.dA (-p-20);rw[<-hz]at z0;have pw:∀(a:Int) (n:Nat) (c:Rat),a=-p-20+(n:Int)->((2^n:Nat):Rat)=c->R.pz a=c*z:=fun a n c ha hc=>by
  rw[ha,R.dZ,hc,hz];grind
 have bGN:=pw (-p-12) 8 256 (by omega) (by norm_cast);have e8:=pw (-p-8) 12 4096 (by omega) (by norm_cast);have bIR:=pw (1-(p+20)) 1 2 (by omega) (by norm_cast);have bNQ:=pw (2-(p+20)) 2 4 (by omega) (by norm_cast);have zs:z<=1/2097152:=by
  have:=R.cF (show -p-20<=-21 by omega);have e:=R.fU 0 (n:=21) (c:=2097152) (by norm_cast);rw[R.eB,show(0:Int)-((21:Nat):Int)=-21 by rfl]at e;grind
 obtain⟨b1,b2⟩:=Bx.trn bs bc (k:=k);have eT:rD x (p+80) (p+14)=VTurned.trn (rS x (p+80) (p+14)) (rC x (p+80) (p+14)) (k%4).toNat:=by unfold rD;rw[hq]
 rw[<-eT,<-bNM]at b1;rw[<-eT,<-bNN]at b2;have aXW:=On.trn os oc (k%4).toNat;rw[<-eT]at aXW;have b1:Bx (rD x (p+80) (p+14)).1 (R.Sf (R.qz x) k) (R.pz (-p-12)*R.ab (R.Sf (R.qz x) k)) (mg p):=by
  refine xU b1 ?_;rw[bNM,aEG];split <;> exact cFB
 have b2:Bx (rD x (p+80) (p+14)).2 (R.Cf (R.qz x) k) (R.pz (-p-12)*R.ab (R.Cf (R.qz x) k)) (mg p):=by
  refine xU b2 ?_;rw[bNN,aEL];split <;> exact cFB
 rw[bGN]at b1 b2;have bSF:=bs.Al;have bSE:=bc.Al;have n1:=Ik b1 (by grind) S0;have n2:=Ik b2 (by grind) C0;have bGH:R.pz (-1300)<=R.pz (-1075)/2:=by
  have:=R.mP (-1075);have:=R.cF (show(-1300:Int)<=-1075-1 by omega);grind
 have z1:Kh (rD x (p+80) (p+14)).1.1:=An b1.bl (uG (by grind)) (by grind) (by grind);have z2:Kh (rD x (p+80) (p+14)).1.2:=An b1.bh (uG (by grind)) (by grind) (by grind);have z3:Kh (rD x (p+80) (p+14)).2.1:=An b2.bl (uG (by grind)) (by grind) (by grind);have z4:Kh (rD x (p+80) (p+14)).2.2:=An b2.bh (uG (by grind)) (by grind) (by grind);have bGD:R.Sf (R.qz x) k/R.Cf (R.qz x) k*R.Cf (R.qz x) k=R.Sf (R.qz x) k:=by grind
 obtain⟨q0,q1,q2,bq⟩:=aLU (p:=p+20) b1 b2 S0 C0 sC.2 (by grind) (by grind) bGD (by omega) z1 z2 z3 z4;rw[bNQ]at bq;have aV:R.ab (R.Sf (R.qz x) k/R.Cf (R.qz x) k)*R.ab (R.Cf (R.qz x) k)=R.ab (R.Sf (R.qz x) k):=by rw[<-R.fX,bGD]
 have bTI:R.pz (-1075)*R.pz 1075=1:=by rw[<-R.iU];exact R.eB
 have bYO:1<=R.pz 1075:=by rw[<-R.eB];exact R.cF (by omega)
 have tV:R.pz (-1075)<=R.ab (R.Sf (R.qz x) k/R.Cf (R.qz x) k)/\R.ab (R.Sf (R.qz x) k/R.Cf (R.qz x) k)<=R.pz 1075:=by
  have a0:=R.aM (R.Sf (R.qz x) k/R.Cf (R.qz x) k);generalize R.ab (R.Sf (R.qz x) k/R.Cf (R.qz x) k)=a at *;constructor
  ·have:=R.aE a0 (show 0<=1-R.ab (R.Cf (R.qz x) k) by grind);grind
  ·refine R.cG bJH ?_;have:=R.aE a0 (show 0<=R.ab (R.Cf (R.qz x) k)-R.pz (-1075) by grind);grind
 have bNY:=Nb _ tV.1;obtain⟨bE,vl,vh,V0,oE⟩:Bx (rE fn x (p+80) (p+12)) (R.fv fn (R.qz x) k) (2048*z*R.ab (R.fv fn (R.qz x) k)) (mg p)/\R.pz (-1075)<=R.ab (R.fv fn (R.qz x) k)/\R.ab (R.fv fn (R.qz x) k)<=R.pz 1075/\R.fv fn (R.qz x) k≠0/\(fn<=2->On (rE fn x (p+80) (p+12))):=by
  have aJY:p+12+2=p+14:=by omega
  have bNP:p+12+8=p+20:=by omega
  have h3:fn=1\/fn=2\/fn=3:=by omega
  rcases h3 with rfl |rfl |rfl
  ·have a:R.fv 1 (R.qz x) k=R.Sf (R.qz x) k:=rfl;have b:rE 1 x (p+80) (p+12)=(rD x (p+80) (p+14)).1:=by unfold rE;rw[aJY];rfl
   rw[a,b];exact⟨xU b1 (by have:=R.aE (cEA z0) (R.aM (R.Sf (R.qz x) k));grind),sS.1,by grind,S0,fun _=>aXW.1⟩
  ·have a:R.fv 2 (R.qz x) k=R.Cf (R.qz x) k:=rfl;have b:rE 2 x (p+80) (p+12)=(rD x (p+80) (p+14)).2:=by unfold rE;rw[aJY];rfl
   rw[a,b];exact⟨xU b2 (by have:=R.aE (cEA z0) (R.aM (R.Cf (R.qz x) k));grind),sC.1,by grind,C0,fun _=>aXW.2⟩
  ·have a:R.fv 3 (R.qz x) k=R.Sf (R.qz x) k/R.Cf (R.qz x) k:=rfl;have b:rE 3 x (p+80) (p+12)=rQ x (p+80) (p+12):=rfl;rw[a,b];unfold rQ;rw[aJY,bNP];exact⟨xU bq (by have:=R.aE (cEA z0) (R.aM (R.Sf (R.qz x) k/R.Cf (R.qz x) k));grind),tV.1,tV.2,bNY,fun h=>absurd h (by decide)⟩
 have nE:=Ik bE (by grind) V0;have bHC:2*R.pz 1075<=R.pz 1100:=by rw[<-R.jX];exact R.cF (by omega)
 obtain⟨bJC,bJB,bO⟩:=aBB (n:=p+20) bE (by omega) (by grind) (by grind);rw[bIR]at bO;have bX:Bx (eE fn x p) (R.fv fn (R.qz x) k) (4096*z*R.ab (R.fv fn (R.qz x) k)) (mg p):=by
  refine xU bO ?_;have k1:=R.aE (cEA z0) (show 0<=65/64*R.ab (R.fv fn (R.qz x) k)-R.ab (R.qz (rE fn x (p+80) (p+12)).1) by grind);have k2:=R.aE (cEA z0) (show 0<=65/64*R.ab (R.fv fn (R.qz x) k)-R.ab (R.qz (rE fn x (p+80) (p+12)).2) by grind);have k3:=R.aE (cEA z0) (R.aM (R.fv fn (R.qz x) k));grind
 have nX:=Ik bX (by grind) V0;have g1:=Ao false (rE fn x (p+80) (p+12)).1 (p+20).toNat;have g2:=Ao true (rE fn x (p+80) (p+12)).2 (p+20).toNat;rw[show(((p+20).toNat:Nat):Int)=p+20 by omega]at g1 g2;have m1:(eE fn x p).1.1≠0:=uG (by grind);have m2:(eE fn x p).2.1≠0:=uG (by grind);have x1:=Kq (up:=false) (p:=(rE fn x (p+80) (p+12)).1) (n:=p+20) m1;have x2:=Kq (up:=true) (p:=(rE fn x (p+80) (p+12)).2) (n:=p+20) m2;have bGI:R.pz (-1076)<=63/64*R.pz (-1075):=by
  have:=R.mP (-1075);rw[show(-1075:Int)-1=-1076 by rfl]at this;grind
 have y1:=Dy (p:=(rE fn x (p+80) (p+12)).1) (E:=-1076) (uG (by grind)) (by grind);have y2:=Dy (p:=(rE fn x (p+80) (p+12)).2) (E:=-1076) (uG (by grind)) (by grind);refine⟨so,co,bSF,bSE,b1.Al,b2.Al,⟨z1,z2,z3,z4⟩,q0,q1,q2,bE.Al,bJC,bJB,V0,?_,?_,?_,?_,?_,?_,?_⟩
 ·have:=R.cF (show(-1100:Int)<=-1075 by omega);grind
 ·have:=R.cF (show(1075:Int)<=1090 by omega);grind
 ·rw[e8];exact bX
 ·constructor
  ·show((bl (shD false (rE fn x (p+80) (p+12)).1 (p+20)).1.natAbs:Nat):Int)<=_;omega
  ·show((bl (shD true (rE fn x (p+80) (p+12)).2 (p+20)).1.natAbs:Nat):Int)<=_;omega
 ·have P1200:R.pz 1100<=R.pz (-p-1400+((p+2600).toNat:Nat)):=R.cF (by omega);refine aCR (E:=-p-1400) (n:=(p+2600).toNat) bX.ph bX.pl.Hr ?_ ?_ (by grind) ?_ (by omega) (by omega) (by omega)
  ·show -p-1400<=(shD true (rE fn x (p+80) (p+12)).2 (p+20)).2;omega
  ·show -p-1400<=(shD false (rE fn x (p+80) (p+12)).1 (p+20)).2;omega
  ·rw[oQ,R.iV];grind
 ·have bJE:R.pz p*z=1/1048576:=by
   rw[hz,<-R.iU,show p+(-p-20)=-20 by omega];have e:=R.fU 0 (n:=20) (c:=1048576) (by norm_cast);rw[R.eB,show(0:Int)-((20:Nat):Int)=-20 by rfl]at e;grind
  have wd:=bX.wd;have lo:=bX.lo;have hi:=bX.hi;have m0:=bX.m0;have k1:=R.aE (cEA (R.dA p)) (show 0<=4096*z*R.ab (R.fv fn (R.qz x) k)-(R.qz (eE fn x p).2-R.qz (eE fn x p).1) by grind);have k2:R.pz p*(4096*z*R.ab (R.fv fn (R.qz x) k))=R.ab (R.fv fn (R.qz x) k)/256:=by
   have:R.pz p*(4096*z*R.ab (R.fv fn (R.qz x) k))=4096*(R.pz p*z)*R.ab (R.fv fn (R.qz x) k):=by grind
   rw[this,bJE];grind
  refine aRJ (by grind) ?_
  by_cases c:0<R.fv fn (R.qz x) k
  ·left;have s:=nX.2.2.2.2.1 c;rw[R.bP (cEA c)]at *;have e:=R.bP (cEA s);refine⟨s,?_⟩;have:=nX.1;rw[e]at this;grind
  ·right;have s:=nX.2.2.2.2.2.1 (by grind);have e:R.ab (R.qz (eE fn x p).2)=-R.qz (eE fn x p).2:=by rw[<-R.iV,R.bP (by grind)]
   refine⟨s,?_⟩;have:=nX.2.2.1;rw[e]at this;grind
 ·intro h2;exact⟨Tn (by omega) (oE h2).1,Tn (by omega) (oE h2).2⟩
end M
namespace W
open Go AI M
namespace fM
def E:=mE [(83,Cg.aJ)] 42 [26] [(3,[1])] [3]
def aF:=bd f172
theorem aX:Nk E aF:=nk
def J3 a:=mU E f172 aF 3 [cY a]
theorem start a b c:aI E f172 aF [D.s (sc (int i64 a)),D.s (sc (int u64 b)),D.s (sc (int i64 c))]=letI A:=some [D.s (sc (bool false)),D.s (sc (int i64 1))];aB (decide (a<1)) A (aB (decide (3<a)) A (aB (decide (c<1)) A (aB (decide (66000<c)) A (fM.J3 b)))):=eJ aX
theorem iL a:J3 a=letI A:=bif cC.fB 64 a then fO.gE (aG.fD 64) (a%9223372036854775808)else(0:Int);letI B:=some [D.s (sc (bool (A==0))),D.s (sc (int i64 6))];aO (((64:Int)=(32:Int)\/(64:Int)=(64:Int))/\0<=a/\a<18446744073709551616) (aB (A==3) B (aB (A==4) B (some [D.s (sc (bool (A==0))),D.s (sc (int i64 (bif cC.fB 64 a then(0:Int)else(2:Int))))]))):=cJ aX
def Px(b:Int):Int:=bif cC.fB 64 b then fO.gE (aG.fD 64) (b%9223372036854775808)else 0
def Tb(fn b p:Int):Int:=if fn<1 then 1 else if 3<fn then 1 else if p<1 then 1 else if 66000<p then 1 else if Px b=3 then 6 else if Px b=4 then 6 else bif cC.fB 64 b then 0 else 2
def aJH(fn b p:Int):Bool:=if fn<1 then false else if 3<fn then false else if p<1 then false else if 66000<p then false else Px b==0
def sp(fn b p:Int):Prop×List D:=(0<=b/\b<18446744073709551616,[.s (.sc (.bool (aJH fn b p))),.s (.sc (.int .i64 (Tb fn b p)))])
theorem spec:pO E f172 aF (pN .i64) (pN .u64) (pN .i64) sp:=by
 intro fn b p h;refine(start fn b p).trans ?_;unfold sp Tb aJH;dsimp only
 by_cases c1:fn<1
 ·rw[aQ c1,if_pos c1,if_pos c1]
 ·rw[aL c1,if_neg c1,if_neg c1]
  by_cases c2:3<fn
  ·rw[aQ c2,if_pos c2,if_pos c2]
  ·rw[aL c2,if_neg c2,if_neg c2]
   by_cases c3:p<1
   ·rw[aQ c3,if_pos c3,if_pos c3]
   ·rw[aL c3,if_neg c3,if_neg c3]
    by_cases c4:66000<p
    ·rw[aQ c4,if_pos c4,if_pos c4]
    ·rw[aL c4,if_neg c4,if_neg c4,iL,gP ⟨Or.inr rfl,h.1,h.2⟩];show aB (Px b==3) (some [_,_]) (aB (Px b==4) (some [_,_]) (some [D.s (.sc (.bool (Px b==0))),_]))=_
     by_cases c5:Px b=3
     ·rw[cD c5,if_pos c5];rfl
     ·rw[bJ c5,if_neg c5]
      by_cases c6:Px b=4
      ·rw[cD c6,if_pos c6];rfl
      ·rw[bJ c6,if_neg c6]
def aJ:dK:=orc3 (pN .i64) (pN .u64) (pN .i64) sp
theorem ok:OK 172 aJ:=(fJ E aF (aA Cg.ok aD) func172).zR rfl spec
end fM
namespace aCW
def E:=mE [(211,bA.aJ),(115,nI.aJ),(116,cR.aJ),(212,VTurned.aJ),(119,jH.aJ)] 72 [18,29,39,50,69] [] []
def aF:=bd f173
theorem aX:Nk E aF:=nk
theorem start a b c d:aI E f173 aF [D.s (sc (int i64 a)),D.s (sc (int u64 b)),D.s (sc (int i64 c)),D.s (sc (int i64 d))]=letI Z:=sc (int i64 0);letI F:=bA.qW b;letI W:=bA.aAD F c;letI U:=bA.aAC F c;aO ((0<=b/\b<18446744073709551616)/\cC.fB 64 b=true/\cN.jW 64 b=true/\(1<=c/\c<=66590)/\kE F/\bl F.fst.natAbs<=64/\(-1200:Int)<=F.snd/\F.snd<=1200) (aC (isNeg U.fst) fun e=>aC (M6.dg U.fst.natAbs) fun f=>aC U.snd fun g=>aC (isNeg W.fst) fun h=>aC (M6.dg W.fst.natAbs) fun i=>aC W.snd fun j=>letI G:=(e,f,g,h,i,j);letI P:=fV.Mi (dv (iI G)) (d+2);letI O:=fV.Mh (dv (iH G)) (d+2);letI K:=bI.sW (dv (cR.Bi G)) (d+2);letI I:=bI.sA (dv (cR.uF G)) (d+2);aO (nI.Wy G d) (aC (isNeg O.fst) fun k=>aC (M6.dg O.fst.natAbs) fun l=>aC O.snd fun m=>aC (isNeg P.fst) fun n=>aC (M6.dg P.fst.natAbs) fun o=>aC P.snd fun p=>letI A1:=(k,l,m,n,o,p);aO (cR.aCI G d) (aC (isNeg K.fst) fun q=>aC (M6.dg K.fst.natAbs) fun r=>aC K.snd fun s=>aC (isNeg I.fst) fun t=>aC (M6.dg I.fst.natAbs) fun u=>aC I.snd fun v=>letI B1:=(q,r,s,t,u,v);letI A:=VTurned.trn (dv (iH A1),dv (iI A1)) (dv (iH B1),dv (iI B1)) (bA.cQ F c).toNat;aO (fA A1/\fA B1/\0<=bA.cQ F c/\bA.cQ F c<=3) (aC (isNeg A.fst.fst.fst) fun w=>aC (M6.dg A.fst.fst.fst.natAbs) fun x=>aC A.fst.fst.snd fun y=>aC (isNeg A.fst.snd.fst) fun z=>aC (M6.dg A.fst.snd.fst.natAbs) fun aa=>aC A.fst.snd.snd fun ab=>letI N:=(w,x,y,z,aa,ab);letI D1:=dv (iI N);letI C1:=dv (iH N);aC (isNeg A.snd.fst.fst) fun ac=>aC (M6.dg A.snd.fst.fst.natAbs) fun ad=>aC A.snd.fst.snd fun ae=>aC (isNeg A.snd.snd.fst) fun af=>aC (M6.dg A.snd.snd.fst.natAbs) fun ag=>aC A.snd.snd.snd fun ah=>letI H:=(ac,ad,ae,af,ag,ah);letI Y:=dv (iI H);letI X:=dv (iH H);letI C:=jH.Mr (i64.wrap (d+8)) C1 D1 X Y;letI T:=aN C.fst C.snd;letI B:=jH.Mq (i64.wrap (d+8)) C1 D1 X Y;letI Q:=aN B.fst B.snd;aB (a==1) (some [D.agg [sc (bool w),ints u64 x,sc (int i64 y),sc (bool z),ints u64 aa,sc (int i64 ab)],D.s Z]) (aB (a==2) (some [D.agg [sc (bool ac),ints u64 ad,sc (int i64 ae),sc (bool af),ints u64 ag,sc (int i64 ah)],D.s Z]) (aO (fA N/\fA H/\(1<=i64.wrap (d+8)/\i64.wrap (d+8)<=70000)/\fZ.tI X Y≠0/\(bl C1.fst.natAbs<=262144/\bl D1.fst.natAbs<=262144/\bl X.fst.natAbs<=262144/\bl Y.fst.natAbs<=262144)/\iF B.fst B.snd=true/\iF C.fst C.snd=true) (aC (isNeg Q.fst) fun ai=>aC (M6.dg Q.fst.natAbs) fun aj=>aC Q.snd fun ak=>aC (isNeg T.fst) fun al=>aC (M6.dg T.fst.natAbs) fun am=>aC T.snd fun an=>some [D.agg [sc (bool ai),ints u64 aj,sc (int i64 ak),sc (bool al),ints u64 am,sc (int i64 an)],D.s Z]))))))):=eJ aX
def sp(fn b w p:Int):Prop×List D:=((1<=fn/\fn<=3)/\(0<=b/\b<18446744073709551616)/\cC.fB 64 b=true/\cN.jW 64 b=true/\aDD (bA.qW b)/\(13<=p/\p<=66012)/\w=p+68,[wG (rE fn (bA.qW b) w p).1 (rE fn (bA.qW b) w p).2,.s (.sc (.int .i64 0))])
theorem fold(a b:Int×Int):(isNeg a.1,M6.dg a.1.natAbs,a.2,isNeg b.1,M6.dg b.1.natAbs,b.2)=nM a b:=rfl
theorem spec:Pd E f173 aF (pN .i64) (pN .u64) (pN .i64) (pN .i64) sp:=by
 rintro fn b w p ⟨hf,hb,aYL,qE,hx,hp,hw⟩;obtain⟨pp,rfl⟩:∃pp,p=pp+12:=⟨p-12,by omega⟩;obtain rfl:w=pp+80:=by omega
 refine(start fn b (pp+80) (pp+12)).trans ?_;obtain⟨k,hk⟩:=Ku (w:=pp+80) hx (by omega);have N:=wS (fn:=fn) (p:=pp) hx (by omega) hf hk;have q4:0<=bA.cQ (bA.qW b) (pp+80)/\bA.cQ (bA.qW b) (pp+80)<=3:=by rw[hk.q];omega
 have eb:=hx.bl;have xe0:=hx.e0;have xe1:=hx.e1;have aJY:pp+12+2=pp+14:=by omega
 have bNP:pp+12+8=pp+20:=by omega
 have bRY:i64.wrap (pp+20)=pp+20:=wrap_i64;have so:=N.so;have co:=N.co;have sS:=N.sS;have sC:=N.sC;have t1:=N.t1;have t2:=N.t2;obtain⟨z1,z2,z3,z4⟩:=N.z;unfold sp rE rQ;dsimp only;rw[aJY,bNP,bRY,gP ⟨hb,aYL,qE,⟨by omega,by omega⟩,hx.wL,by omega,by omega,by omega⟩,aH,aH,aH,aH,aH,aH,fold];refine(gP so).trans ?_;rw[pQ,pS,aH,aH,aH,aH,aH,aH,fold];refine(gP co).trans ?_;rw[aH,aH,aH,aH,aH,aH,fold];refine(gP ⟨sS,sC,q4.1,q4.2⟩).trans ?_;rw[pQ,pS,pQ,pS];have eT:VTurned.trn (fV.Mh (bA.aAC (bA.qW b) (pp+80)) (pp+14),fV.Mi (bA.aAD (bA.qW b) (pp+80)) (pp+14)) (bI.sW (dv (cR.Bi (nM (bA.aAC (bA.qW b) (pp+80)) (bA.aAD (bA.qW b) (pp+80))))) (pp+14),bI.sA (dv (cR.uF (nM (bA.aAC (bA.qW b) (pp+80)) (bA.aAD (bA.qW b) (pp+80))))) (pp+14)) (bA.cQ (bA.qW b) (pp+80)).toNat=rD (bA.qW b) (pp+80) (pp+14):=rfl;rw[eT,aH,aH,aH,aH,aH,aH,aH,aH,aH,aH,aH,aH];have h3:fn=1\/fn=2\/fn=3:=by omega
 rcases h3 with rfl |rfl |rfl
 ·rfl
 ·rfl
 ·rw[bJ (by decide),bJ (by decide),fold,fold,pQ,pS,pQ,pS];have p1:1<=pp+20:=by omega
  have p2:pp+20<=70000:=by omega
  have y1:=bZP z1.1 (show 100000<=262144 by decide);have y2:=bZP z2.1 (show 100000<=262144 by decide);have y3:=bZP z3.1 (show 100000<=262144 by decide);have y4:=bZP z4.1 (show 100000<=262144 by decide);have c:=And.intro t1 (And.intro t2 (And.intro (And.intro p1 p2) (And.intro N.q0 (And.intro (And.intro y1 (And.intro y2 (And.intro y3 y4))) (And.intro N.q1 N.q2)))));refine(gP c).trans ?_;rw[aH,aH,aH,aH,aH,aH];rfl
def aJ:dK:=orc4 (pN .i64) (pN .u64) (pN .i64) (pN .i64) sp
theorem ok:OK 173 aJ:=(fJ E aF (aA bA.ok (aA nI.ok (aA cR.ok (aA VTurned.ok (aA jH.ok aD))))) func173).aME rfl spec
end aCW
namespace Br
def E:=mE [(162,Po.aJ),(163,bBG.aJ),(164,Zq.aJ)] 31 [28] [] []
def aF:=bd f118
theorem aX:Nk E aF:=nk
theorem start a b d e f g c:aI E f118 aF [D.agg [sc (bool a),ints u64 b,sc (int i64 d)],D.agg [sc (bool e),ints u64 f,sc (int i64 g)],D.s (sc (int i64 c))]=letI B:=cS.oM true (dv (e,f,g)).fst (dv (e,f,g)).snd c;letI F:=bif iF B.fst B.snd then aN B.fst B.snd else((0:Int),(0:Int));letI A:=cS.oM false (dv (a,b,d)).fst (dv (a,b,d)).snd c;letI C:=bif iF A.fst A.snd then aN A.fst A.snd else((0:Int),(0:Int));aO (aR (a,b,d)/\1<=c/\c<=70000) (aC (isNeg C.fst) fun h=>aC (M6.dg C.fst.natAbs) fun i=>aC C.snd fun j=>aC (bif iF A.fst A.snd then(0:Int)else(5:Int)) fun k=>aO (aR (e,f,g)/\1<=c/\c<=70000) (aC (isNeg F.fst) fun l=>aC (M6.dg F.fst.natAbs) fun m=>aC F.snd fun n=>aC (bif iF B.fst B.snd then(0:Int)else(5:Int)) fun o=>aO (k=0/\o=0) (some [D.agg [sc (bool h),ints u64 i,sc (int i64 j),sc (bool l),ints u64 m,sc (int i64 n)],D.s (sc (int i64 0))]))):=eJ aX
def sp(x y:gQ)(p:Int):Prop×List D:=(aR x/\aR y/\(1<=p/\p<=70000)/\yD false (dv x) p=true/\yD true (dv y) p=true,[wG (shD false (dv x) p) (shD true (dv y) p),.s (.sc (.int .i64 0))])
theorem spec:pO E f118 aF jO jO (pN .i64) sp:=by
 rintro x y p ⟨h1,h2,hp,i1,i2⟩;have bKB:iF (cS.oM false (dv (x.1,x.2.1,x.2.2)).1 (dv (x.1,x.2.1,x.2.2)).2 p).1 (cS.oM false (dv (x.1,x.2.1,x.2.2)).1 (dv (x.1,x.2.1,x.2.2)).2 p).2=true:=i1;have bKA:iF (cS.oM true (dv (y.1,y.2.1,y.2.2)).1 (dv (y.1,y.2.1,y.2.2)).2 p).1 (cS.oM true (dv (y.1,y.2.1,y.2.2)).1 (dv (y.1,y.2.1,y.2.2)).2 p).2=true:=i2;refine(start x.1 x.2.1 x.2.2 y.1 y.2.1 y.2.2 p).trans ?_;simp only[aH];rw[gP ⟨h1,hp⟩,gP ⟨h2,hp⟩,bKB,bKA,gP ⟨rfl,rfl⟩];rfl
def aJ:dK:=orc3 jO jO (pN .i64) sp
theorem ok:OK 118 aJ:=(fJ E aF (aA Po.ok (aA bBG.ok (aA Zq.ok aD))) func118).zR rfl spec
end Br
namespace aPZ
def E:=mE [(117,Er.aJ),(118,Br.aJ)] 23 [10,20] [] []
def aF:=bd f65
theorem aX:Nk E aF:=nk
theorem start a c d e f g b:aI E f65 aF [D.agg [sc (bool a),ints u64 c,sc (int i64 d),sc (bool e),ints u64 f,sc (int i64 g)],D.s (sc (int i64 b))]=letI C:=int i64 0;letI B:=M.shD true (dv (e,f,g)) b;letI A:=M.shD false (dv (a,c,d)) b;aO (fA (a,c,d,e,f,g)) (aC (if 1<=b/\b<=70000 then(0:Int)else(1:Int)) fun h=>aB (h !=0) (some [D.agg [sc (bool false),sc (slice none 0 0),sc C,sc (bool false),sc (slice none 0 0),sc C],D.s (sc (int i64 h))]) (aO (aR (a,c,d)/\aR (e,f,g)/\(1<=b/\b<=70000)/\yD false (dv (a,c,d)) b=true/\yD true (dv (e,f,g)) b=true) (aC (isNeg A.fst) fun i=>aC (M6.dg A.fst.natAbs) fun j=>aC A.snd fun k=>aC (isNeg B.fst) fun l=>aC (M6.dg B.fst.natAbs) fun m=>aC B.snd fun n=>some [D.agg [sc (bool i),ints u64 j,sc (int i64 k),sc (bool l),ints u64 m,sc (int i64 n)],D.s (sc C)]))):=eJ aX
def sp(s:yA)(p:Int):Prop×List D:=(fA s/\(1<=p/\p<=70000)/\yD false (dv (iH s)) p=true/\yD true (dv (iI s)) p=true,[wG (shD false (dv (iH s)) p) (shD true (dv (iI s)) p),.s (.sc (.int .i64 0))])
theorem spec:hI E f65 aF zQ (pN .i64) sp:=by
 rintro s p ⟨h1,hp,i1,i2⟩;refine(start s.1 s.2.1 s.2.2.1 s.2.2.2.1 s.2.2.2.2.1 s.2.2.2.2.2 p).trans ?_;rw[gP h1,aH,if_pos hp,gF rfl];exact gP ⟨h1.1,h1.2.1,hp,i1,i2⟩
def aJ:dK:=orc2 zQ (pN .i64) sp
theorem ok:OK 65 aJ:=(fJ E aF (aA Er.ok (aA Br.ok aD)) func65).nF rfl spec
end aPZ
namespace kY
def E:=mE [(172,fM.aJ),(113,Eo.aJ),(14,aQM.aJ),(173,aCW.aJ),(65,aPZ.aJ),(174,Gr.aJ)] 93 [19,32,37,52,69,79] [(10,[0,1,2,6,10]),(6,[0,1,2,6,8]),(13,[0,1,2,6,10,11,12])] [6,13]
def aF:=bd f125
theorem aX:Nk E aF:=nk
def J6 a b c d e f g h:=mU E f125 aF 6 [cA a,cY b,cA c,dR 3 44 [cX d,sc (slice none 0 0),dC e,cX f,sc (slice none 0 0),dC g],Jv h]
def Ix a b c d e f g h:=tM E f125 aF 10 [cA a,cY b,cA c,dR 3 44 [cX d,sc (slice none 0 0),dC e,cX f,sc (slice none 0 0),dC g],cA h]
def Sw a b c d e f g h i j k l m n o:=mU E f125 aF 13 [cA a,cY b,cA c,dR 3 44 [cX d,sc (slice none 0 0),dC e,cX f,sc (slice none 0 0),dC g],cA h,dR 5 44 [cX i,gJ j,dC k,cX l,gJ m,dC n],cA o]
theorem start a b c:aI E f125 aF [D.s (sc (int i64 a)),D.s (sc (int u64 b)),D.s (sc (int i64 c))]=letI B:=int i64 0;letI A:=kY.J6 a b c false 0 false 0 (fM.aJH a b c);aO (0<=b/\b<18446744073709551616) (aB (fM.Tb a b c !=0) (some [D.agg [sc (bool false),sc (slice none 0 0),sc B,sc (bool false),sc (slice none 0 0),sc B],D.s (sc (int i64 (fM.Tb a b c)))]) (aB (fM.aJH a b c) (aB (a==2) (aO ((-9223372036854775808:Int)<=(1:Int)/\(1:Int)<(9223372036854775808:Int)) (aC (isNeg (aN 1 0).fst) fun d=>aC (M6.dg (aN 1 0).fst.natAbs) fun e=>aC (aN 1 0).snd fun f=>aO (aR (d,e,f)) (some [D.agg [sc (bool d),ints u64 e,sc (int i64 f),sc (bool d),ints u64 e,sc (int i64 f)],D.s (sc B)]))) A) A)):=eJ aX
theorem Js a b c d e f g h:J6 a b c d e f g h=aB h (aO ((-9223372036854775808:Int)<=(0:Int)/\(0:Int)<(9223372036854775808:Int)) (aC (isNeg (aN 0 0).fst) fun i=>aC (M6.dg (aN 0 0).fst.natAbs) fun j=>aC (aN 0 0).snd fun k=>aO (aR (i,j,k)) (some [D.agg [sc (bool i),ints u64 j,sc (int i64 k),sc (bool i),ints u64 j,sc (int i64 k)],D.s (sc (int i64 0))]))) (kY.Ix a b c d e f g (i64.wrap (c+80))):=cJ aX
theorem sG a b c d e f g h:Ix a b c d e f g h=letI A:=rE a (bA.qW b) (if 68000<h then(68000:Int)else h) (i64.wrap (c+12));aO ((1<=a/\a<=3)/\(0<=b/\b<18446744073709551616)/\cC.fB 64 b=true/\cN.jW 64 b=true/\aDD (bA.qW b)/\(13<=i64.wrap (c+12)/\i64.wrap (c+12)<=66012)/\(if 68000<h then(68000:Int)else h)=i64.wrap (c+12)+68) (aC (isNeg A.fst.fst) fun i=>aC (M6.dg A.fst.fst.natAbs) fun j=>aC A.fst.snd fun k=>aC (isNeg A.snd.fst) fun l=>aC (M6.dg A.snd.fst.natAbs) fun m=>aC A.snd.snd fun n=>kY.Sw a b c d e f g (if 68000<h then(68000:Int)else h) i j k l m n 0):=lJ aX
theorem zM a b c d e f g h i j k l m n o:Sw a b c d e f g h i j k l m n o=letI K:=int i64 0;letI H:=(i,j,k,l,m,n);letI G:=i64.wrap (c+20);letI C:=M.shD true (dv (iI H)) G;letI B:=M.shD false (dv (iH H)) G;aB (o !=0) (some [D.agg [sc (bool false),sc (slice none 0 0),sc K,sc (bool false),sc (slice none 0 0),sc K],D.s (sc (int i64 o))]) (aO (fA H/\(1<=i64.wrap (c+20)/\i64.wrap (c+20)<=70000)/\yD false (dv (iH H)) G=true/\yD true (dv (iI H)) G=true) (aC (isNeg B.fst) fun p=>aC (M6.dg B.fst.natAbs) fun q=>aC B.snd fun r=>aC (isNeg C.fst) fun s=>aC (M6.dg C.fst.natAbs) fun t=>aC C.snd fun u=>letI F:=(p,q,r,s,t,u);letI I:=dv (iH F);letI A:=some [D.agg [sc (bool p),ints u64 q,sc (int i64 r),sc (bool s),ints u64 t,sc (int i64 u)],D.s (sc K)];aO (fA F/\(1<=c/\c<=70000)/\bQ.kT (dv (iI F)) (-I.fst,I.snd)=true) (aC (Gr.bBJ I (dv (iI F)) c) fun v=>aB v A (aB (h==68000) A (kY.Ix a b c d e f g (i64.wrap (h+64))))))):=cJ aX
def aTX(fn b p:Int):(Int×Int)×(Int×Int):=if fM.Tb fn b p≠0 then((0,0),(0,0))else bif fM.aJH fn b p then(if fn=2 then((1,0),(1,0))else((0,0),(0,0)))else eE fn (bA.qW b) p
def sp(fn b p:Int):Prop×List D:=(0<=b/\b<18446744073709551616,[wG (aTX fn b p).1 (aTX fn b p).2,.s (.sc (.int .i64 (fM.Tb fn b p)))])
theorem fold(a b:Int×Int):(isNeg a.1,M6.dg a.1.natAbs,a.2,isNeg b.1,M6.dg b.1.natAbs,b.2)=nM a b:=rfl
theorem aOY{b:Int}(hb:0<=b/\b<18446744073709551616)(c0:fM.Px b≠0)(c3:fM.Px b≠3)(c4:fM.Px b≠4):cC.fB 64 b=true/\cN.jW 64 b=true/\bBF (bC.kF 64 b) (bC.lW 64 b):=by
 have hp:cC.fB 64 b=true:=rfl;unfold fM.Px at c0 c3 c4;rw[hp,cond_true]at c0 c3 c4;have e1:cK.kV (aG.fD 64)=4503599627370496:=rfl;have e2:jU.lR (aG.fD 64)=9218868437227405312:=rfl;have e3:bV.cE (aG.fD 64)=9223372036854775808:=rfl;have e4:(aG.fD 64).2.2.1=-1074:=rfl;unfold fO.gE at c0 c3 c4;rw[e1,e2]at c0 c3 c4;have n0:b%9223372036854775808≠0:=fun h=>by rw[h,if_pos rfl]at c0;exact c0 rfl
 have n1:b%9223372036854775808<9218868437227405312:=by
  rw[if_neg n0]at c3 c4
  by_cases h1:b%9223372036854775808<4503599627370496
  ·omega
  ·rw[if_neg h1]at c3 c4
   by_cases h2:b%9223372036854775808<9218868437227405312
   ·exact h2
   ·rw[if_neg h2]at c3 c4
    by_cases h3:b%9223372036854775808=9218868437227405312
    ·rw[if_pos h3]at c3;exact absurd rfl c3
    ·rw[if_neg h3]at c4;exact absurd rfl c4
 refine⟨hp,?_,?_⟩
 ·unfold cN.jW;rw[e2,e3];exact decide_eq_true n1
 ·have hz:(bC.kF 64 b).natAbs=(dO.pV (aG.fD 64) (b%9223372036854775808)).toNat:=by
   unfold bC.kF;rw[mB,e3]
  have hm:0<dO.pV (aG.fD 64) (b%9223372036854775808)/\dO.pV (aG.fD 64) (b%9223372036854775808)<9007199254740992:=by
   unfold dO.pV;rw[e1];split <;> omega
  have he:-1074<=bC.lW 64 b/\bC.lW 64 b<=971:=by
   unfold bC.lW dO.tT;rw[e1,e3,e4];split <;> omega
  exact⟨by omega,by omega,he.1,he.2⟩
theorem told{fn b p:Int}(c:fM.Tb fn b p=0)(hz:fM.aJH fn b p=false):(1<=fn/\fn<=3)/\(1<=p/\p<=66000)/\fM.Px b≠0/\fM.Px b≠3/\fM.Px b≠4:=by
  unfold fM.Tb at c;unfold fM.aJH at hz
  by_cases c1:fn<1
  ·rw[if_pos c1]at c;omega
  ·rw[if_neg c1]at c hz
   by_cases c2:3<fn
   ·rw[if_pos c2]at c;omega
   ·rw[if_neg c2]at c hz
    by_cases c3:p<1
    ·rw[if_pos c3]at c;omega
    ·rw[if_neg c3]at c hz
     by_cases c4:66000<p
     ·rw[if_pos c4]at c;omega
     ·rw[if_neg c4]at c hz
      by_cases c5:fM.Px b=3
      ·rw[if_pos c5]at c;omega
      ·rw[if_neg c5]at c
       by_cases c6:fM.Px b=4
       ·rw[if_pos c6]at c;omega
       ·exact⟨by omega,by omega,beq_eq_false_iff_ne.1 hz,c5,c6⟩
theorem spec:bAO E f125 aF (pN .i64) (pN .u64) (pN .i64) sp:=by
 intro fn b p h;have h:0<=b/\b<18446744073709551616:=h;have s:=(start fn b p).trans (gP h);unfold sp aTX;dsimp only
 by_cases c:fM.Tb fn b p=0
 ·rw[aP,c];rw[c,gF rfl]at s;cases hz:fM.aJH fn b p with
  |true =>
   rw[cond_true];rw[hz,bT]at s
   by_cases f2:fn=2
   ·rw[if_pos f2];have e:aN 1 0=(1,0):=by decide +kernel
    rw[cD f2,gP ⟨by decide,by decide⟩,e,aH,aH,aH,gP (dP (show kE (1,0)from e▸gZ (iD (by decide +kernel) (by decide +kernel)) (by decide +kernel)))]at s;exact⟨_,s,iQ.refl _⟩
   ·rw[if_neg f2];have e:aN 0 0=(0,0):=fN ..;rw[bJ f2,Js,bT,gP ⟨by decide,by decide⟩,e,aH,aH,aH,gP (dP (show kE (0,0)from e▸gZ (iD (by decide +kernel) (by decide +kernel)) (by decide +kernel)))]at s;exact⟨_,s,iQ.refl _⟩
  |false =>
   rw[cond_false];have hv:=told c hz;obtain⟨hf,hp,v0,v3,v4⟩:=hv;obtain⟨aYL,qE,hN⟩:=aOY h v0 v3 v4;have hx:aDD (bA.qW b):=bGO hN;obtain⟨k,hk⟩:=Ku (w:=p+80) hx (by omega);have N:=wS (fn:=fn) (p:=p) hx hp hf hk;have w1:i64.wrap (p+80)=p+80:=wrap_i64;have w2:i64.wrap (p+12)=p+12:=wrap_i64;have w3:i64.wrap (p+20)=p+20:=wrap_i64;have p1:1<=p+20/\p+20<=70000:=⟨by omega,by omega⟩;have p2:1<=p/\p<=70000:=⟨by omega,by omega⟩;have bXY:p+80=p+12+68:=by omega
   have u:=N.bx;obtain⟨re,s1,s2,ok,th⟩:=And.intro N.re (And.intro N.s1 (And.intro N.s2 (And.intro N.ok N.thin)));have Al:fA (nM (eE fn (bA.qW b) p).1 (eE fn (bA.qW b) p).2):=u.Al;unfold eE at ok th Al ⊢;rw[hz,bF,Js,bF,w1,sG,w2,if_neg (show ¬(68000:Int)<p+80 by omega),gP ⟨hf,h,aYL,qE,hx,⟨by omega,by omega⟩,bXY⟩]at s;generalize rE fn (bA.qW b) (p+80) (p+12)=q at *;rw[aH,aH,aH,aH,aH,aH,zM,gF rfl,w3,fold,pQ,pS]at s;have s:=s.trans (gP ⟨re,p1,s1,s2⟩);dsimp only at ok th Al ⊢;generalize M.shD false q.1 (p+20)=lo at *;generalize M.shD true q.2 (p+20)=hi at *;rw[aH,aH,aH,aH,aH,aH,fold,pQ,pS]at s;have s:=s.trans (gP ⟨Al,p2,ok⟩);rw[aH,th,bT]at s;exact⟨_,s,iQ.refl _⟩
 ·rw[if_pos c];rw[nZ c]at s;refine⟨_,s,.cons ?_ (iQ.refl _)⟩;have d0:M6.dg ((0,0):Int×Int).1.natAbs=[]:=M6.cT;unfold wG;dsimp only;rw[show(0:Int).natAbs=0 from rfl,M6.cT];exact Ag.agg (.cons (Ep.refl _) (.cons (Ep.nil _) (.cons (Ep.refl _) (.cons (Ep.refl _) (.cons (Ep.nil _) (zN.refl _))))))
def aJ:dK:=orc3 (pN .i64) (pN .u64) (pN .i64) sp
theorem ok:OK 125 aJ:=(fJ E aF (aA fM.ok (aA Eo.ok (aA aQM.ok (aA aCW.ok (aA aPZ.ok (aA Gr.ok aD)))))) func125).bIZ rfl spec
end kY
end W
namespace M
open Go AI W
theorem aPK{b:Int}:fM.Px b=(if b%9223372036854775808=0 then 0 else if b%9223372036854775808<4503599627370496 then 1 else if b%9223372036854775808<9218868437227405312 then 2 else if b%9223372036854775808=9218868437227405312 then 3 else 4):=by
 have hp:cC.fB 64 b=true:=rfl;have e1:cK.kV (aG.fD 64)=4503599627370496:=rfl;have e2:jU.lR (aG.fD 64)=9218868437227405312:=rfl;have e3:bV.cE (aG.fD 64)=9223372036854775808:=rfl;unfold fM.Px fO.gE;rw[hp,e1,e2,cond_true]
theorem aAI{fn b p:Int}:fM.Tb fn b p=if fn<1 then 1 else if 3<fn then 1 else if p<1 then 1 else if 66000<p then 1 else if b%9223372036854775808<9218868437227405312 then 0 else 6:=by
 have hp:cC.fB 64 b=true:=rfl;unfold fM.Tb;rw[aPK,hp,cond_true]
 repeat' (split <;> try rfl)
 all_goals omega
theorem aWY{fn b p:Int}(h:fM.Tb fn b p=0):fM.aJH fn b p=(b%9223372036854775808==0):=by
 rw[aAI]at h;unfold fM.aJH;rw[aPK]
 by_cases c1:fn<1
 ·rw[if_pos c1]at h;omega
 ·rw[if_neg c1]at h ⊢
  by_cases c2:3<fn
  ·rw[if_pos c2]at h;omega
  ·rw[if_neg c2]at h ⊢
   by_cases c3:p<1
   ·rw[if_pos c3]at h;omega
   ·rw[if_neg c3]at h ⊢
    by_cases c4:66000<p
    ·rw[if_pos c4]at h;omega
    ·rw[if_neg c4]at h ⊢
     by_cases c5:b%9223372036854775808=0
     ·rw[if_pos c5,beq_iff_eq.2 c5];rfl
     ·rw[if_neg c5,beq_eq_false_iff_ne.2 c5]
      repeat' (split <;> try rfl)
def Real(b:Int):Prop:=(0<=b/\b<18446744073709551616)/\fM.Px b≠0/\fM.Px b≠3/\fM.Px b≠4
theorem Real.n{b:Int}(h:Real b):bBF (bC.kF 64 b) (bC.lW 64 b):=(kY.aOY h.1 h.2.1 h.2.2.1 h.2.2.2).2.2
theorem Real.x{b:Int}(h:Real b):aDD (bA.qW b):=bGO h.n
theorem Real.q{b:Int}(_h:Real b):R.qz (bA.qW b)=R.qz (bC.kF 64 b,bC.lW 64 b):=nY _ _
end M
namespace M
open Go AI W
open Classical in
def kx (b:Int):Int:=if h:∃k,R.rA (R.qz (bA.qW b)) k then Classical.choose h else 0
theorem Uh{b:Int}(h:Real b):R.rA (R.qz (bA.qW b)) (kx b):=by
 obtain⟨k,hk⟩:=Ku (w:=100) h.x (by omega);have e:∃k,R.rA (R.qz (bA.qW b)) k:=⟨k,hk.aBE⟩;unfold kx;rw[dif_pos e];exact Classical.choose_spec e
theorem aZV{fn b p:Int}(h:Real b)(hf:1<=fn/\fn<=3)(hp:1<=p/\p<=66000):bHJ fn (bA.qW b) p (kx b):=by
 obtain⟨k,hk⟩:=Ku (w:=p+80) h.x (by omega);rw[R.aWZ h.x.fit (Uh h) hk.aBE];exact wS h.x hp hf hk
def vx(fn b:Int):Rat:=R.fv fn (R.qz (bA.qW b)) (kx b)
theorem aEK{fn b p:Int}(hb:0<=b/\b<18446744073709551616)(c:fM.Tb fn b p=0)(hz:¬b%9223372036854775808=0):Real b/\(1<=fn/\fn<=3)/\(1<=p/\p<=66000)/\fM.aJH fn b p=false:=by
 have z:=aWY c;rw[beq_eq_false_iff_ne.2 hz]at z;obtain⟨hf,hp,v⟩:=kY.told c z;exact⟨⟨hb,v⟩,hf,hp,z⟩
theorem aON{fn b p:Int}(c:fM.Tb fn b p=0)(hz:fM.aJH fn b p=false):kY.aTX fn b p=eE fn (bA.qW b) p:=by
 unfold kY.aTX;rw[aP,hz,cond_false]
theorem bSK:R.qz (0,0)=0:=R.oG rfl
end M
namespace M
open Go AI W
structure bRO(x:Int×Int)(n:Nat)(E:Int)(B:Rat):Prop where
 wL:kE x
 bl:bl x.1.natAbs<=n
 e:E<=x.2
 b:R.ab (R.qz x)<=B
end M
namespace M
open Go AI W
theorem Fj(a b:Int×Int):R.qz (eR.gT a b)=R.qz a*R.qz b:=by
 unfold eR.gT;rw[nY,cKB,R.iU];unfold R.qz;grind
end M
namespace W
open Go AI M
namespace Vv
def E:=mE [(120,Iu.aJ)] 9 [] [] []
def aF:=bd f170
theorem aX:Nk E aF:=nk
theorem start a b c d e f:aI E f170 aF [D.agg [sc (bool a),ints u64 b,sc (int i64 c)],D.agg [sc (bool d),ints u64 e,sc (int i64 f)]]=aO (aR (a,b,c)/\aR (d,e,f)) (some [D.s (sc (bool (decide (eN (dv (a,b,c)) (dv (d,e,f))<0))))]):=eJ aX
def sp(x y:gQ):Prop×List D:=(aR x/\aR y,[.s (.sc (.bool (decide (eN (dv x) (dv y)<0))))])
theorem spec:hI E f170 aF jO jO sp:=by
 intro x y h;exact(start x.1 x.2.1 x.2.2 y.1 y.2.1 y.2.2).trans (gP h)
def aJ:dK:=orc2 jO jO sp
theorem ok:OK 170 aJ:=(fJ E aF (aA Iu.ok aD) func170).nF rfl spec
end Vv
namespace SFirstL4
def E:=mE [(170,Vv.aJ)] 25 [] [(3,[1,4,5,12,13,14])] []
def aF:=bd f168
theorem aX:Nk E aF:=nk
def L3 a b c d e (f:Nat) (g:Nat->Bool) (h:Nat->List Int) (j:Nat->Int) k l:=tM E f168 aF 3 [vA (sc (Value.func (Fn.func 170) { toList:=[] } { toList:=[] })),dR 1 29 [cX a,sc (slice none 0 0),dC b],dR 2 29 [cX c,gJ d,dC e],(A.v (V.one (L.rows 3 f fun i=>[sc (bool (g i)),ints u64 (h i),sc (int i64 (j i))])),none),cA k,cA l]
theorem start(a:gQ)(b:gQ)(c:gQ)(d:gQ):aI E f168 aF [D.rows 3 4 fun i=>[sc (bool (t4 a b c d i).fst),ints u64 (t4 a b c d i).snd.fst,sc (int i64 (t4 a b c d i).snd.snd)],D.s (sc (Value.func (Fn.func (170:FuncId)) #[] #[]))]=letI A:=t4 a b c d (cMV 0);SFirstL4.L3 false 0 A.fst A.snd.fst A.snd.snd 3 (fun i=>(t4 a b c d (cMV 1+i)).fst) (fun i=>(t4 a b c d (cMV 1+i)).snd.fst) (fun i=>(t4 a b c d (cMV 1+i)).snd.snd) 3 0:=eJ aX
theorem Cb a b c d e f g h j k l:L3 a b c d e f g h j k l=letI A:=(g l.toNat,h l.toNat,j l.toNat);aB (decide (l<k)) (if 0<=l/\l<(f:Int)then aO (aR A/\aR (c,d,e)) (aB (decide (eN (dv A) (dv (c,d,e))<0)) (SFirstL4.L3 a b (g l.toNat) (h l.toNat) (j l.toNat) f (fun i=>g i) (fun i=>h i) (fun i=>j i) k (i64.wrap (l+1))) (SFirstL4.L3 a b c d e f (fun i=>g i) (fun i=>h i) (fun i=>j i) k (i64.wrap (l+1))))else none) (some [D.agg [sc (bool c),ints u64 d,sc (int i64 e)]]):=lJ aX
def best(f:Nat->gQ):Nat->gQ
 |0=>f 0
 |k+1=>bif decide (eN (dv (f (k+1))) (dv (best f k))<0)then f (k+1)else best f k
def Ke(a:gQ×gQ×gQ×gQ):gQ:=best (t4 a.1 a.2.1 a.2.2.1 a.2.2.2) 3
def sp(a:gQ×gQ×gQ×gQ)(u:Unit):Prop×List D:=(aR a.1/\aR a.2.1/\aR a.2.2.1/\aR a.2.2.2,[.agg [.sc (.bool (Ke a).1),.ints .u64 (Ke a).2.1,.sc (.int .i64 (Ke a).2.2)]])
theorem zF{f:Nat->gQ}{n:Nat}(hf:∀i,i<n->aR (f i)):∀k,k<n->aR (best f k)
 |0,h=>hf 0 h
 |k+1,h=>by
  unfold best;cases decide (eN (dv (f (k+1))) (dv (best f k))<0)
  ·exact zF hf k (by omega)
  ·exact hf (k+1) h
theorem L(b0:Bool)(x1:Int)(n:Nat)(f:Nat->gQ)(hn:n<1000)(hf:∀i,i<n+1->aR (f i)):∀d k:Nat,k+d=n->L3 b0 x1 (best f k).1 (best f k).2.1 (best f k).2.2 n (fun i=>(f (1+i)).1) (fun i=>(f (1+i)).2.1) (fun i=>(f (1+i)).2.2) (n:Int) (k:Int)=some [.agg [.sc (.bool (best f n).1),.ints .u64 (best f n).2.1,.sc (.int .i64 (best f n).2.2)]]
 |0,k,h=>by
  obtain rfl:k=n:=by omega
  rw[Cb,aL]
 |d+1,k,h=>by
  have e:i64.wrap ((k:Int)+1)=((k+1:Nat):Int):=by rw[wrap_i64];omega
  have r:=L b0 x1 n f hn hf d (k+1) (by omega);have g1:aR (f (1+k)):=hf _ (by omega);have g2:aR (best f k):=zF hf k (by omega);have c1:f (k+1)=f (1+k):=by rw[Nat.add_comm]
  rw[Cb,aQ,aW,cCQ,gP ⟨g1,g2⟩,e]
  by_cases hc:eN (dv (f (k+1))) (dv (best f k))<0
  ·have hb:best f (k+1)=f (1+k):=by
    rw[<-c1];show(bif decide (eN (dv (f (k+1))) (dv (best f k))<0)then f (k+1)else best f k)=_;rw[decide_eq_true hc];rfl
   rw[c1]at hc;rw[aQ hc];rw[hb]at r;exact r
  ·have hb:best f (k+1)=best f k:=by
    show(bif decide (eN (dv (f (k+1))) (dv (best f k))<0)then f (k+1)else best f k)=_;rw[decide_eq_false hc];rfl
   rw[c1]at hc;rw[aL hc];rw[hb]at r;exact r
theorem all{a:gQ×gQ×gQ×gQ}(h:aR a.1/\aR a.2.1/\aR a.2.2.1/\aR a.2.2.2):∀i,i<4->aR (t4 a.1 a.2.1 a.2.2.1 a.2.2.2 i):=fun i hi=>by
  obtain rfl |rfl |rfl |rfl:i=0\/i=1\/i=2\/i=3:=by omega
  ·exact h.1
  ·exact h.2.1
  ·exact h.2.2.1
  ·exact h.2.2.2
theorem aCK{a:gQ×gQ×gQ×gQ}(h:aR a.1/\aR a.2.1/\aR a.2.2.1/\aR a.2.2.2):aR (Ke a):=zF (n:=4) (all h) 3 (by decide)
theorem spec:hI E f168 aF (aVL (.pair sB (.pair (sI .u64) (sN .i64))) (false,[],0)) (pFn 170) sp:=fun a u h =>
 (start a.1 a.2.1 a.2.2.1 a.2.2.2).trans (L false 0 3 (t4 a.1 a.2.1 a.2.2.1 a.2.2.2) (by decide) (all h) 3 0 (by decide))
def aJ:dK:=orc2 (aVL (.pair sB (.pair (sI .u64) (sN .i64))) (false,[],0)) (pFn 170) sp
theorem ok:OK 168 aJ:=(fJ E aF (aA Vv.ok aD) func168).nF rfl spec
end SFirstL4
namespace Vu
def E:=mE [(168,SFirstL4.aJ)] 5 [] [] []
def aF:=bd f122
theorem aX:Nk E aF:=nk
theorem start(a:gQ)(b:gQ)(c:gQ)(d:gQ):aI E f122 aF [D.rows 3 4 fun i=>[sc (bool (t4 a b c d i).fst),ints u64 (t4 a b c d i).snd.fst,sc (int i64 (t4 a b c d i).snd.snd)]]=letI G:=t4 a b c d 3;letI F:=t4 a b c d 2;letI K:=(F.fst,F.snd.fst,F.snd.snd);letI C:=t4 a b c d 1;letI I:=(C.fst,C.snd.fst,C.snd.snd);letI B:=t4 a b c d 0;letI H:=(B.fst,B.snd.fst,B.snd.snd);letI A:=SFirstL4.Ke (H,I,K,G.fst,G.snd.fst,G.snd.snd);aO (aR H/\aR I/\aR K/\aR (G.fst,G.snd.fst,G.snd.snd)) (some [D.agg [sc (bool A.fst),ints u64 A.snd.fst,sc (int i64 A.snd.snd)]]):=eJ aX
def sp(a:gQ×gQ×gQ×gQ):Prop×List D:=(aR a.1/\aR a.2.1/\aR a.2.2.1/\aR a.2.2.2,[.agg [.sc (.bool (SFirstL4.Ke a).1),.ints .u64 (SFirstL4.Ke a).2.1,.sc (.int .i64 (SFirstL4.Ke a).2.2)]])
theorem spec:jL E f122 aF (aVL (.pair sB (.pair (sI .u64) (sN .i64))) (false,[],0)) sp:=fun a h =>
 (start a.1 a.2.1 a.2.2.1 a.2.2.2).trans (gP h)
def aJ:dK:=orc1 (aVL (.pair sB (.pair (sI .u64) (sN .i64))) (false,[],0)) sp
theorem ok:OK 122 aJ:=(fJ E aF (aA SFirstL4.ok aD) func122).qB rfl spec
end Vu
namespace Vx
def E:=mE [(120,Iu.aJ)] 9 [] [] []
def aF:=bd f169
theorem aX:Nk E aF:=nk
theorem start a b c d e f:aI E f169 aF [D.agg [sc (bool a),ints u64 b,sc (int i64 c)],D.agg [sc (bool d),ints u64 e,sc (int i64 f)]]=aO (aR (a,b,c)/\aR (d,e,f)) (some [D.s (sc (bool (decide (0<eN (dv (a,b,c)) (dv (d,e,f))))))]):=eJ aX
def sp(x y:gQ):Prop×List D:=(aR x/\aR y,[.s (.sc (.bool (decide (0<eN (dv x) (dv y)))))])
theorem spec:hI E f169 aF jO jO sp:=by
 intro x y h;exact(start x.1 x.2.1 x.2.2 y.1 y.2.1 y.2.2).trans (gP h)
def aJ:dK:=orc2 jO jO sp
theorem ok:OK 169 aJ:=(fJ E aF (aA Iu.ok aD) func169).nF rfl spec
end Vx
namespace SFirstG4
def E:=mE [(169,Vx.aJ)] 25 [] [(3,[1,4,5,12,13,14])] []
def aF:=bd f168
theorem aX:Nk E aF:=nk
def L3 a b c d e (f:Nat) (g:Nat->Bool) (h:Nat->List Int) (j:Nat->Int) k l:=tM E f168 aF 3 [vA (sc (Value.func (Fn.func 169) { toList:=[] } { toList:=[] })),dR 1 29 [cX a,sc (slice none 0 0),dC b],dR 2 29 [cX c,gJ d,dC e],(A.v (V.one (L.rows 3 f fun i=>[sc (bool (g i)),ints u64 (h i),sc (int i64 (j i))])),none),cA k,cA l]
theorem start(a:gQ)(b:gQ)(c:gQ)(d:gQ):aI E f168 aF [D.rows 3 4 fun i=>[sc (bool (t4 a b c d i).fst),ints u64 (t4 a b c d i).snd.fst,sc (int i64 (t4 a b c d i).snd.snd)],D.s (sc (Value.func (Fn.func (169:FuncId)) #[] #[]))]=letI A:=t4 a b c d (cMV 0);SFirstG4.L3 false 0 A.fst A.snd.fst A.snd.snd 3 (fun i=>(t4 a b c d (cMV 1+i)).fst) (fun i=>(t4 a b c d (cMV 1+i)).snd.fst) (fun i=>(t4 a b c d (cMV 1+i)).snd.snd) 3 0:=eJ aX
theorem Cb a b c d e f g h j k l:L3 a b c d e f g h j k l=letI A:=(g l.toNat,h l.toNat,j l.toNat);aB (decide (l<k)) (if 0<=l/\l<(f:Int)then aO (aR A/\aR (c,d,e)) (aB (decide (0<eN (dv A) (dv (c,d,e)))) (SFirstG4.L3 a b (g l.toNat) (h l.toNat) (j l.toNat) f (fun i=>g i) (fun i=>h i) (fun i=>j i) k (i64.wrap (l+1))) (SFirstG4.L3 a b c d e f (fun i=>g i) (fun i=>h i) (fun i=>j i) k (i64.wrap (l+1))))else none) (some [D.agg [sc (bool c),ints u64 d,sc (int i64 e)]]):=lJ aX
def best(f:Nat->gQ):Nat->gQ
 |0=>f 0
 |k+1=>bif decide (0<eN (dv (f (k+1))) (dv (best f k)))then f (k+1)else best f k
def Ke(a:gQ×gQ×gQ×gQ):gQ:=best (t4 a.1 a.2.1 a.2.2.1 a.2.2.2) 3
def sp(a:gQ×gQ×gQ×gQ)(u:Unit):Prop×List D:=(aR a.1/\aR a.2.1/\aR a.2.2.1/\aR a.2.2.2,[.agg [.sc (.bool (Ke a).1),.ints .u64 (Ke a).2.1,.sc (.int .i64 (Ke a).2.2)]])
theorem zF{f:Nat->gQ}{n:Nat}(hf:∀i,i<n->aR (f i)):∀k,k<n->aR (best f k)
 |0,h=>hf 0 h
 |k+1,h=>by
  unfold best;cases decide (0<eN (dv (f (k+1))) (dv (best f k)))
  ·exact zF hf k (by omega)
  ·exact hf (k+1) h
theorem L(b0:Bool)(x1:Int)(n:Nat)(f:Nat->gQ)(hn:n<1000)(hf:∀i,i<n+1->aR (f i)):∀d k:Nat,k+d=n->L3 b0 x1 (best f k).1 (best f k).2.1 (best f k).2.2 n (fun i=>(f (1+i)).1) (fun i=>(f (1+i)).2.1) (fun i=>(f (1+i)).2.2) (n:Int) (k:Int)=some [.agg [.sc (.bool (best f n).1),.ints .u64 (best f n).2.1,.sc (.int .i64 (best f n).2.2)]]
 |0,k,h=>by
  obtain rfl:k=n:=by omega
  rw[Cb,aL]
 |d+1,k,h=>by
  have e:i64.wrap ((k:Int)+1)=((k+1:Nat):Int):=by rw[wrap_i64];omega
  have r:=L b0 x1 n f hn hf d (k+1) (by omega);have g1:aR (f (1+k)):=hf _ (by omega);have g2:aR (best f k):=zF hf k (by omega);have c1:f (k+1)=f (1+k):=by rw[Nat.add_comm]
  rw[Cb,aQ,aW,cCQ,gP ⟨g1,g2⟩,e]
  by_cases hc:0<eN (dv (f (k+1))) (dv (best f k))
  ·have hb:best f (k+1)=f (1+k):=by
    rw[<-c1];show(bif decide (0<eN (dv (f (k+1))) (dv (best f k)))then f (k+1)else best f k)=_;rw[decide_eq_true hc];rfl
   rw[c1]at hc;rw[aQ hc];rw[hb]at r;exact r
  ·have hb:best f (k+1)=best f k:=by
    show(bif decide (0<eN (dv (f (k+1))) (dv (best f k)))then f (k+1)else best f k)=_;rw[decide_eq_false hc];rfl
   rw[c1]at hc;rw[aL hc];rw[hb]at r;exact r
theorem all{a:gQ×gQ×gQ×gQ}(h:aR a.1/\aR a.2.1/\aR a.2.2.1/\aR a.2.2.2):∀i,i<4->aR (t4 a.1 a.2.1 a.2.2.1 a.2.2.2 i):=fun i hi=>by
  obtain rfl |rfl |rfl |rfl:i=0\/i=1\/i=2\/i=3:=by omega
  ·exact h.1
  ·exact h.2.1
  ·exact h.2.2.1
  ·exact h.2.2.2
theorem aCK{a:gQ×gQ×gQ×gQ}(h:aR a.1/\aR a.2.1/\aR a.2.2.1/\aR a.2.2.2):aR (Ke a):=zF (n:=4) (all h) 3 (by decide)
theorem spec:hI E f168 aF (aVL (.pair sB (.pair (sI .u64) (sN .i64))) (false,[],0)) (pFn 169) sp:=fun a u h =>
 (start a.1 a.2.1 a.2.2.1 a.2.2.2).trans (L false 0 3 (t4 a.1 a.2.1 a.2.2.1 a.2.2.2) (by decide) (all h) 3 0 (by decide))
def aJ:dK:=orc2 (aVL (.pair sB (.pair (sI .u64) (sN .i64))) (false,[],0)) (pFn 169) sp
theorem ok:OK 168 aJ:=(fJ E aF (aA Vx.ok aD) func168).nF rfl spec
end SFirstG4
namespace Vw
def E:=mE [(168,SFirstG4.aJ)] 5 [] [] []
def aF:=bd f121
theorem aX:Nk E aF:=nk
theorem start(a:gQ)(b:gQ)(c:gQ)(d:gQ):aI E f121 aF [D.rows 3 4 fun i=>[sc (bool (t4 a b c d i).fst),ints u64 (t4 a b c d i).snd.fst,sc (int i64 (t4 a b c d i).snd.snd)]]=letI G:=t4 a b c d 3;letI F:=t4 a b c d 2;letI K:=(F.fst,F.snd.fst,F.snd.snd);letI C:=t4 a b c d 1;letI I:=(C.fst,C.snd.fst,C.snd.snd);letI B:=t4 a b c d 0;letI H:=(B.fst,B.snd.fst,B.snd.snd);letI A:=SFirstG4.Ke (H,I,K,G.fst,G.snd.fst,G.snd.snd);aO (aR H/\aR I/\aR K/\aR (G.fst,G.snd.fst,G.snd.snd)) (some [D.agg [sc (bool A.fst),ints u64 A.snd.fst,sc (int i64 A.snd.snd)]]):=eJ aX
def sp(a:gQ×gQ×gQ×gQ):Prop×List D:=(aR a.1/\aR a.2.1/\aR a.2.2.1/\aR a.2.2.2,[.agg [.sc (.bool (SFirstG4.Ke a).1),.ints .u64 (SFirstG4.Ke a).2.1,.sc (.int .i64 (SFirstG4.Ke a).2.2)]])
theorem spec:jL E f121 aF (aVL (.pair sB (.pair (sI .u64) (sN .i64))) (false,[],0)) sp:=fun a h =>
 (start a.1 a.2.1 a.2.2.1 a.2.2.2).trans (gP h)
def aJ:dK:=orc1 (aVL (.pair sB (.pair (sI .u64) (sN .i64))) (false,[],0)) sp
theorem ok:OK 121 aJ:=(fJ E aF (aA SFirstG4.ok aD) func121).qB rfl spec
end Vw
namespace SMul
def E:Env:={ ({ base with C:=callsOf [(117,zI.aJ),(155,eR.aJ),(122,Vu.aJ),(121,Vw.aJ),(118,Br.aJ)],roll:=tlook [(6,3),(9,3)] })with nt:=69,own:=[20,48,66],keep:=fun k=>(tlook [(9,[2,4,6,9,11,29,30,31,39,40,41]),(6,[2,4,6,9,29,30,31])] k).getD [],cut:=tlook [(17,[2,6,1000009])] }
def aF:=bd f114
theorem start a b d e f g h i j k l m c:aI E f114 aF [D.agg [sc (bool a),ints u64 b,sc (int i64 d),sc (bool e),ints u64 f,sc (int i64 g)],D.agg [sc (bool h),ints u64 i,sc (int i64 j),sc (bool k),ints u64 l,sc (int i64 m)],D.s (sc (int i64 c))]=aO (fA (a,b,d,e,f,g)/\fA (h,i,j,k,l,m)) (aC (if 1<=c/\c<=70000 then(0:Int)else(1:Int)) fun n=>aB (n !=0) (some [D.agg [sc (bool false),sc (slice none 0 0),sc (int i64 0),sc (bool false),sc (slice none 0 0),sc (int i64 0)],D.s (sc (int i64 n))]) (aO (aR (a,b,d)/\aR (h,i,j)) (aC (isNeg (bif eR.mJ (dv (a,b,d)) (dv (h,i,j))then eR.gT (dv (a,b,d)) (dv (h,i,j))else((0:Int),(0:Int))).fst) fun o=>aC (M6.dg (bif eR.mJ (dv (a,b,d)) (dv (h,i,j))then eR.gT (dv (a,b,d)) (dv (h,i,j))else((0:Int),(0:Int))).fst.natAbs) fun p=>aC (bif eR.mJ (dv (a,b,d)) (dv (h,i,j))then eR.gT (dv (a,b,d)) (dv (h,i,j))else((0:Int),(0:Int))).snd fun q=>aC (bif eR.mJ (dv (a,b,d)) (dv (h,i,j))then(0:Int)else(5:Int)) fun r=>aB (r !=0) (some [D.agg [sc (bool false),sc (slice none 0 0),sc (int i64 0),sc (bool false),sc (slice none 0 0),sc (int i64 0)],D.s (sc (int i64 r))]) (aO (aR (a,b,d)/\aR (k,l,m)) (aC (isNeg (bif eR.mJ (dv (a,b,d)) (dv (k,l,m))then eR.gT (dv (a,b,d)) (dv (k,l,m))else((0:Int),(0:Int))).fst) fun s=>aC (M6.dg (bif eR.mJ (dv (a,b,d)) (dv (k,l,m))then eR.gT (dv (a,b,d)) (dv (k,l,m))else((0:Int),(0:Int))).fst.natAbs) fun t=>aC (bif eR.mJ (dv (a,b,d)) (dv (k,l,m))then eR.gT (dv (a,b,d)) (dv (k,l,m))else((0:Int),(0:Int))).snd fun u=>aC (bif eR.mJ (dv (a,b,d)) (dv (k,l,m))then(0:Int)else(5:Int)) fun v=>aB (v !=0) (some [D.agg [sc (bool false),sc (slice none 0 0),sc (int i64 0),sc (bool false),sc (slice none 0 0),sc (int i64 0)],D.s (sc (int i64 v))]) (aO (aR (e,f,g)/\aR (h,i,j)) (aC (isNeg (bif eR.mJ (dv (e,f,g)) (dv (h,i,j))then eR.gT (dv (e,f,g)) (dv (h,i,j))else((0:Int),(0:Int))).fst) fun w=>aC (M6.dg (bif eR.mJ (dv (e,f,g)) (dv (h,i,j))then eR.gT (dv (e,f,g)) (dv (h,i,j))else((0:Int),(0:Int))).fst.natAbs) fun x=>aC (bif eR.mJ (dv (e,f,g)) (dv (h,i,j))then eR.gT (dv (e,f,g)) (dv (h,i,j))else((0:Int),(0:Int))).snd fun y=>aC (bif eR.mJ (dv (e,f,g)) (dv (h,i,j))then(0:Int)else(5:Int)) fun z=>aB (z !=0) (some [D.agg [sc (bool false),sc (slice none 0 0),sc (int i64 0),sc (bool false),sc (slice none 0 0),sc (int i64 0)],D.s (sc (int i64 z))]) (aO (aR (e,f,g)/\aR (k,l,m)) (aC (isNeg (bif eR.mJ (dv (e,f,g)) (dv (k,l,m))then eR.gT (dv (e,f,g)) (dv (k,l,m))else((0:Int),(0:Int))).fst) fun aa=>aC (M6.dg (bif eR.mJ (dv (e,f,g)) (dv (k,l,m))then eR.gT (dv (e,f,g)) (dv (k,l,m))else((0:Int),(0:Int))).fst.natAbs) fun ab=>aC (bif eR.mJ (dv (e,f,g)) (dv (k,l,m))then eR.gT (dv (e,f,g)) (dv (k,l,m))else((0:Int),(0:Int))).snd fun ac=>aC (bif eR.mJ (dv (e,f,g)) (dv (k,l,m))then(0:Int)else(5:Int)) fun ad=>aB (ad !=0) (some [D.agg [sc (bool false),sc (slice none 0 0),sc (int i64 0),sc (bool false),sc (slice none 0 0),sc (int i64 0)],D.s (sc (int i64 ad))]) (aO (aR (o,p,q)/\aR (s,t,u)/\aR (w,x,y)/\aR (aa,ab,ac)) (aC (SFirstL4.Ke ((o,p,q),(s,t,u),(w,x,y),aa,ab,ac)).fst fun ae=>aC (SFirstL4.Ke ((o,p,q),(s,t,u),(w,x,y),aa,ab,ac)).snd.fst fun af=>aC (SFirstL4.Ke ((o,p,q),(s,t,u),(w,x,y),aa,ab,ac)).snd.snd fun ag=>aO (aR (o,p,q)/\aR (s,t,u)/\aR (w,x,y)/\aR (aa,ab,ac)) (aC (SFirstG4.Ke ((o,p,q),(s,t,u),(w,x,y),aa,ab,ac)).fst fun ah=>aC (SFirstG4.Ke ((o,p,q),(s,t,u),(w,x,y),aa,ab,ac)).snd.fst fun ai=>aC (SFirstG4.Ke ((o,p,q),(s,t,u),(w,x,y),aa,ab,ac)).snd.snd fun aj=>aO (aR (ae,af,ag)/\aR (ah,ai,aj)/\(1<=c/\c<=70000)/\yD false (dv (ae,af,ag)) c=true/\yD true (dv (ah,ai,aj)) c=true) (aC (isNeg (M.shD false (dv (ae,af,ag)) c).fst) fun ak=>aC (M6.dg (M.shD false (dv (ae,af,ag)) c).fst.natAbs) fun al=>aC (M.shD false (dv (ae,af,ag)) c).snd fun am=>aC (isNeg (M.shD true (dv (ah,ai,aj)) c).fst) fun an=>aC (M6.dg (M.shD true (dv (ah,ai,aj)) c).fst.natAbs) fun ao=>aC (M.shD true (dv (ah,ai,aj)) c).snd fun ap=>some [D.agg [sc (bool ak),ints u64 al,sc (int i64 am),sc (bool an),ints u64 ao,sc (int i64 ap)],D.s (sc (int i64 0))]))))))))))))):=by kernel_rfl
def Au(a b:(Int×Int)×(Int×Int)):Int×Int:=Nc (Nc (Nc (eR.gT a.1 b.1) (eR.gT a.1 b.2)) (eR.gT a.2 b.1)) (eR.gT a.2 b.2)
def Av(a b:(Int×Int)×(Int×Int)):Int×Int:=Oa (Oa (Oa (eR.gT a.1 b.1) (eR.gT a.1 b.2)) (eR.gT a.2 b.1)) (eR.gT a.2 b.2)
def aSS(a b:(Int×Int)×(Int×Int)):Prop:=eR.mJ a.1 b.1=true/\eR.mJ a.1 b.2=true/\eR.mJ a.2 b.1=true/\eR.mJ a.2 b.2=true
abbrev eS(s:yA):(Int×Int)×(Int×Int):=(dv (iH s),dv (iI s))
def sp(s t:yA)(p:Int):Prop×List D:=((fA s/\fA t)/\(1<=p/\p<=70000)/\aSS (eS s) (eS t)/\yD false (Au (eS s) (eS t)) p=true/\yD true (Av (eS s) (eS t)) p=true,[wG (shD false (Au (eS s) (eS t)) p) (shD true (Av (eS s) (eS t)) p),.s (.sc (.int .i64 0))])
theorem Kx{p q:Int×Int}(h:eR.mJ p q=true):kE (eR.gT p q):=by
 unfold eR.mJ at h;rw[bYZ]at h;exact gZ h.2 (of_decide_eq_true h.1)
theorem bTA(a:gQ×gQ×gQ×gQ):dv (SFirstL4.Ke a)=Nc (Nc (Nc (dv a.1) (dv a.2.1)) (dv a.2.2.1)) (dv a.2.2.2):=by
 have st:∀x y:gQ,dv (bif decide (eN (dv x) (dv y)<0)then x else y)=Nc (dv y) (dv x):=by
  intro x y;unfold Nc;cases decide (eN (dv x) (dv y)<0) <;> rfl
 show dv (bif decide (eN (dv a.2.2.2) (dv (bif decide (eN (dv a.2.2.1) (dv (bif decide (eN (dv a.2.1) (dv a.1)<0)then a.2.1 else a.1))<0)then a.2.2.1 else(bif decide (eN (dv a.2.1) (dv a.1)<0)then a.2.1 else a.1)))<0)then a.2.2.2 else(bif decide (eN (dv a.2.2.1) (dv (bif decide (eN (dv a.2.1) (dv a.1)<0)then a.2.1 else a.1))<0)then a.2.2.1 else(bif decide (eN (dv a.2.1) (dv a.1)<0)then a.2.1 else a.1)))=_;rw[st,st,st]
theorem bXP(a:gQ×gQ×gQ×gQ):dv (SFirstG4.Ke a)=Oa (Oa (Oa (dv a.1) (dv a.2.1)) (dv a.2.2.1)) (dv a.2.2.2):=by
 have st:∀x y:gQ,dv (bif decide (0<eN (dv x) (dv y))then x else y)=Oa (dv y) (dv x):=by
  intro x y;unfold Oa;cases decide (0<eN (dv x) (dv y)) <;> rfl
 show dv (bif decide (0<eN (dv a.2.2.2) (dv (bif decide (0<eN (dv a.2.2.1) (dv (bif decide (0<eN (dv a.2.1) (dv a.1))then a.2.1 else a.1)))then a.2.2.1 else(bif decide (0<eN (dv a.2.1) (dv a.1))then a.2.1 else a.1))))then a.2.2.2 else(bif decide (0<eN (dv a.2.2.1) (dv (bif decide (0<eN (dv a.2.1) (dv a.1))then a.2.1 else a.1)))then a.2.2.1 else(bif decide (0<eN (dv a.2.1) (dv a.1))then a.2.1 else a.1)))=_;rw[st,st,st]
theorem spec:pO E f114 aF zQ zQ (pN .i64) sp:=by
 rintro s t p ⟨⟨h1,h2⟩,hp,⟨m1,m2,m3,m4⟩,i1,i2⟩;have hL:aR (s.1,s.2.1,s.2.2.1):=h1.1;have hH:aR (s.2.2.2.1,s.2.2.2.2.1,s.2.2.2.2.2):=h1.2.1;have kL:aR (t.1,t.2.1,t.2.2.1):=h2.1;have kH:aR (t.2.2.2.1,t.2.2.2.2.1,t.2.2.2.2.2):=h2.2.1;refine(start s.1 s.2.1 s.2.2.1 s.2.2.2.1 s.2.2.2.2.1 s.2.2.2.2.2 t.1 t.2.1 t.2.2.1 t.2.2.2.1 t.2.2.2.2.1 t.2.2.2.2.2 p).trans ?_;unfold sp Au Av eS at *;dsimp only at *;unfold iH iI at *;generalize ha:dv (s.1,s.2.1,s.2.2.1)=a at *;generalize hb:dv (s.2.2.2.1,s.2.2.2.2.1,s.2.2.2.2.2)=b at *;generalize hc:dv (t.1,t.2.1,t.2.2.1)=c at *;generalize hd:dv (t.2.2.2.1,t.2.2.2.2.1,t.2.2.2.2.2)=d at *;have d1:=dP (Kx m1);have d2:=dP (Kx m2);have d3:=dP (Kx m3);have d4:=dP (Kx m4);have e1:=dX (eR.gT a c);have e2:=dX (eR.gT a d);have e3:=dX (eR.gT b c);have e4:=dX (eR.gT b d);rw[gP ⟨h1,h2⟩,aH,if_pos hp,gF rfl,gP ⟨hL,kL⟩];simp only[aH,m1,m2,m3,m4,cond_true];rw[gF rfl,gP ⟨hL,kH⟩,gF rfl,gP ⟨hH,kL⟩,gF rfl,gP ⟨hH,kH⟩,gF rfl];obtain⟨Q,hQ⟩:∃Q:gQ×gQ×gQ×gQ,Q=((isNeg (eR.gT a c).1,M6.dg (eR.gT a c).1.natAbs,(eR.gT a c).2),(isNeg (eR.gT a d).1,M6.dg (eR.gT a d).1.natAbs,(eR.gT a d).2),(isNeg (eR.gT b c).1,M6.dg (eR.gT b c).1.natAbs,(eR.gT b c).2),(isNeg (eR.gT b d).1,M6.dg (eR.gT b d).1.natAbs,(eR.gT b d).2)):=⟨_,rfl⟩;have dQ:aR Q.1/\aR Q.2.1/\aR Q.2.2.1/\aR Q.2.2.2:=by rw[hQ];exact⟨d1,d2,d3,d4⟩
 have v1:=bTA Q;have v2:=bXP Q;have k1:=SFirstL4.aCK dQ;have k2:=SFirstG4.aCK dQ;rw[show dv Q.1=eR.gT a c by rw[hQ];exact e1,show dv Q.2.1=eR.gT a d by rw[hQ];exact e2,show dv Q.2.2.1=eR.gT b c by rw[hQ];exact e3,show dv Q.2.2.2=eR.gT b d by rw[hQ];exact e4]at v1 v2;rw[gP ⟨d1,d2,d3,d4⟩,gP ⟨d1,d2,d3,d4⟩,<-hQ];rw[<-v1]at i1 ⊢;rw[<-v2]at i2 ⊢;exact gP ⟨k1,k2,hp,i1,i2⟩
def aJ:dK:=orc3 zQ zQ (pN .i64) sp
theorem fnok:uB prog E 114 f114 aF:=aID sT mixed (mV _ rfl (aA zI.ok (aA eR.ok (aA Vu.ok (aA Vw.ok (aA Br.ok aD))))) (oR)) func114 rfl rfl rfl
theorem ok:lO prog base.glob 114 aJ:=fnok.zR rfl spec
end SMul
end W
namespace M
open Go AI W
theorem Ub{a b x:Rat}{y:Rat}(h1:a<=x)(h2:x<=b):(a*y<=x*y\/b*y<=x*y)/\(x*y<=a*y\/x*y<=b*y):=by
 by_cases h:0<=y
 ·have m1:=R.aE (show 0<=x-a by grind) h;have m2:=R.aE (show 0<=b-x by grind) h;exact⟨.inl (by grind),.inr (by grind)⟩
 ·have m1:=R.aE (show 0<=x-a by grind) (show 0<=-y by grind);have m2:=R.aE (show 0<=b-x by grind) (show 0<=-y by grind);exact⟨.inr (by grind),.inl (by grind)⟩
theorem aXX{a b:(Int×Int)×(Int×Int)}{x y:Rat}(h1:R.qz a.1<=x)(h2:x<=R.qz a.2)(h3:R.qz b.1<=y)(h4:y<=R.qz b.2):R.qz (SMul.Au a b)<=x*y/\x*y<=R.qz (SMul.Av a b):=by
 obtain⟨l1,l2⟩:=aBG (eR.gT a.1 b.1) (eR.gT a.1 b.2);obtain⟨l3,l4⟩:=aBG (Nc (eR.gT a.1 b.1) (eR.gT a.1 b.2)) (eR.gT a.2 b.1);obtain⟨l5,l6⟩:=aBG (Nc (Nc (eR.gT a.1 b.1) (eR.gT a.1 b.2)) (eR.gT a.2 b.1)) (eR.gT a.2 b.2);obtain⟨g1,g2⟩:=aBX (eR.gT a.1 b.1) (eR.gT a.1 b.2);obtain⟨g3,g4⟩:=aBX (Oa (eR.gT a.1 b.1) (eR.gT a.1 b.2)) (eR.gT a.2 b.1);obtain⟨g5,g6⟩:=aBX (Oa (Oa (eR.gT a.1 b.1) (eR.gT a.1 b.2)) (eR.gT a.2 b.1)) (eR.gT a.2 b.2);change R.qz (SMul.Au a b)<=_ at l5 l6;change _<=R.qz (SMul.Av a b)at g5 g6;rw[Fj]at l1 l2 l4 l6 g1 g2 g4 g6;generalize R.qz (SMul.Au a b)=L at *;generalize R.qz (SMul.Av a b)=H at *;generalize R.qz (Nc (Nc (eR.gT a.1 b.1) (eR.gT a.1 b.2)) (eR.gT a.2 b.1))=L2 at *;generalize R.qz (Nc (eR.gT a.1 b.1) (eR.gT a.1 b.2))=L1 at *;generalize R.qz (Oa (Oa (eR.gT a.1 b.1) (eR.gT a.1 b.2)) (eR.gT a.2 b.1))=G2 at *;generalize R.qz (Oa (eR.gT a.1 b.1) (eR.gT a.1 b.2))=G1 at *;generalize R.qz a.1=a1 at *;generalize R.qz a.2=a2 at *;generalize R.qz b.1=b1 at *;generalize R.qz b.2=b2 at *;obtain⟨m1,m2⟩:=Ub (y:=y) h1 h2;obtain⟨p1,p2⟩:=Ub (y:=a1) h3 h4;obtain⟨q1,q2⟩:=Ub (y:=a2) h3 h4;constructor
 ·rcases m1 with m |m
  ·rcases p1 with p |p <;> grind
  ·rcases q1 with q |q <;> grind
 ·rcases m2 with m |m
  ·rcases p2 with p |p <;> grind
  ·rcases q2 with q |q <;> grind
end M
namespace W
open Go AI M
namespace Wd
def E:=mE [(50,jQ.aJ)] 31 [] [] []
def aF:=bd f199
theorem aX:Nk E aF:=nk
theorem start a b c:aI E f199 aF [D.s (ints u64 a),D.s (ints u64 b),D.s (sc (int i64 c))]=letI C:=i64.wrap ((0:Int)-c);letI B:=bif iF (wv (false,b)) C then aN (wv (false,b)) C else((0:Int),(0:Int));letI A:=bif iF (wv (false,a)) C then aN (wv (false,a)) C else((0:Int),(0:Int));aO (gY (false,a)/\(-9223372036854775808:Int)<=i64.wrap ((0:Int)-c)/\i64.wrap ((0:Int)-c)<9223372036854775808) (aC (isNeg A.fst) fun d=>aC (M6.dg A.fst.natAbs) fun e=>aC A.snd fun f=>aO (gY (false,b)/\(-9223372036854775808:Int)<=i64.wrap ((0:Int)-c)/\i64.wrap ((0:Int)-c)<9223372036854775808) (aC (isNeg B.fst) fun g=>aC (M6.dg B.fst.natAbs) fun h=>aC B.snd fun i=>some [D.agg [sc (bool d),ints u64 e,sc (int i64 f),sc (bool g),ints u64 h,sc (int i64 i)],D.s (sc (int i64 0))])):=eJ aX
def sp(a b:List Int)(w:Int):Prop×List D:=(gY (false,a)/\gY (false,b)/\(-100000<=w/\w<=100000)/\iF (wv (false,a)) (-w)=true/\iF (wv (false,b)) (-w)=true,[wG (aN (wv (false,a)) (-w)) (aN (wv (false,b)) (-w)),.s (.sc (.int .i64 0))])
theorem spec:pO E f199 aF (pI .u64) (pI .u64) (pN .i64) sp:=by
 rintro a b w ⟨ha,hb,hw,i1,i2⟩;have e:i64.wrap (0-w)=-w:=by rw[wrap_i64];omega
 refine(start a b w).trans ?_;rw[e,i1,i2,gP ⟨ha,by omega,by omega⟩];simp only[aH,cond_true];rw[gP ⟨hb,by omega,by omega⟩];rfl
def aJ:dK:=orc3 (pI .u64) (pI .u64) (pN .i64) sp
theorem ok:OK 199 aJ:=(fJ E aF (aA jQ.ok aD) func199).zR rfl spec
end Wd
namespace aQI
def E:=mE [(100,uY.aJ),(95,oY.aJ),(199,Wd.aJ)] 26 [23] [] []
def aF:=bd f153
theorem aX:Nk E aF:=nk
theorem start a b c:aI E f153 aF [D.s (ints u64 a),D.s (sc (int i64 b)),D.s (sc (int i64 c))]=letI F:=int i64 0;letI C:=M6.val a+M6.val (M6.dg 1);letI A:=aN (wv (false,a)) (-c);aB (b !=0) (some [D.agg [sc (bool false),sc (slice none 0 0),sc F,sc (bool false),sc (slice none 0 0),sc F],D.s (sc (int i64 b))]) (aO ((0:Int)<=(1:Int)/\(1:Int)<(18446744073709551616:Int)) (aO (M6.cV a/\M6.cV (M6.dg 1)/\a.length<=8192/\(M6.dg 1).length<=8192) (aC (bif cU.nL C then M6.dg C else []) fun d=>letI B:=aN (wv (false,d)) (-c);aO (gY (false,a)/\gY (false,d)/\((-100000:Int)<=c/\c<=100000)/\iF (wv (false,a)) (-c)=true/\iF (wv (false,d)) (-c)=true) (aC (isNeg A.fst) fun e=>aC (M6.dg A.fst.natAbs) fun f=>aC A.snd fun g=>aC (isNeg B.fst) fun h=>aC (M6.dg B.fst.natAbs) fun i=>aC B.snd fun j=>some [D.agg [sc (bool e),ints u64 f,sc (int i64 g),sc (bool h),ints u64 i,sc (int i64 j)],D.s (sc F)])))):=eJ aX
def sp(a:List Int)(e p:Int):Prop×List D:=(e=0/\M6.cV a/\bl (M6.val a)<=100000/\1<=p/\p<=70000,[wG (aN (M6.val a:Int) (-p)) (aN ((M6.val a:Int)+1) (-p)),.s (.sc (.int .i64 0))])
theorem spec:pO E f153 aF (pI .u64) (pN .i64) (pN .i64) sp:=by
 rintro a e p ⟨rfl,ha,hb,p0,p1⟩;have hv:M6.val a<2^100000:=dG.1 hb;have bDY:M6.val a+1<2^100001:=by rw[cDS];omega
 have ok:=dY.aVN bDY (by omega);have la:a.length<=8192:=by
  have:=dY.mD hv (by omega);rwa [M6.Lg ha]at this
 have l1:(M6.dg 1).length<=8192:=dY.mD (k:=1) (by decide) (by omega);have e1:wv (false,a)=(M6.val a:Int):=rfl;have e2:wv (false,M6.dg (M6.val a+1))=(M6.val a:Int)+1:=by
  show((M6.val (M6.dg (M6.val a+1)):Nat):Int)=_;rw[M6.bZ];omega
 have b1:bl (M6.val a+1)<=100001:=dG.2 bDY;have i1:iF (M6.val a:Int) (-p)=true:=iD (by omega) (by rw[cEJ];omega);have i2:iF ((M6.val a:Int)+1) (-p)=true:=iD (by omega) (by rw[show((M6.val a:Int)+1).natAbs=M6.val a+1 by omega];omega);refine(start a 0 p).trans ?_;rw[gF rfl,gP ⟨by decide,by decide⟩,gP ⟨ha,M6.aZ _,la,l1⟩,M6.bZ,ok,cond_true,aH];refine(gP ⟨⟨ha,fun h=>(by cases h),la⟩,⟨M6.aZ _,fun h=>(by cases h),dY.mD bDY (by omega)⟩,by omega,by rw[e1];exact i1,by rw[e2];exact i2⟩).trans ?_;rw[e1,e2];rfl
def aJ:dK:=orc3 (pI .u64) (pN .i64) (pN .i64) sp
theorem ok:OK 153 aJ:=(fJ E aF (aA uY.ok (aA oY.ok (aA Wd.ok aD))) func153).zR rfl spec
end aQI
namespace uA
def E:=mE [(152,tB.aJ),(153,aQI.aJ)] 17 [14] [] []
def aF:=bd f112
theorem aX:Nk E aF:=nk
theorem start a:aI E f112 aF [D.s (sc (int i64 a))]=letI C:=M6.dg (R.pF a.toNat);letI A:=(↑(M6.val C):Int);letI F:=aN A (-a);letI B:=aN (A+(1:Int)) (-a);aO (1<=a/\a<=70000) (aO ((0:Int)=(0:Int)/\M6.cV C/\bl (M6.val C)<=100000/\1<=a/\a<=70000) (aC (isNeg F.fst) fun b=>aC (M6.dg F.fst.natAbs) fun c=>aC F.snd fun d=>aC (isNeg B.fst) fun e=>aC (M6.dg B.fst.natAbs) fun f=>aC B.snd fun g=>some [D.agg [sc (bool b),ints u64 c,sc (int i64 d),sc (bool e),ints u64 f,sc (int i64 g)],D.s (sc (int i64 0))])):=eJ aX
def uO(p:Int):(Int×Int)×(Int×Int):=(aN (R.pF p.toNat:Int) (-p),aN ((R.pF p.toNat:Int)+1) (-p))
def sp(p:Int):Prop×List D:=(1<=p/\p<=70000,[wG (uO p).1 (uO p).2,.s (.sc (.int .i64 0))])
theorem aVM{p:Int}(h:1<=p/\p<=70000):bl (R.pF p.toNat)<=100000:=by
 obtain⟨q,rfl⟩:=cDX (show 0<=p by omega);rw[cCQ];have h1:=(R.Aq (q:=q) (by omega)).1;obtain⟨_,p2⟩:=R.eY;have P:(0:Rat)<((2^q:Nat):Rat):=by exact_mod_cast cBT (n:=q) (show 0<2 by decide)
 have m:=R.aE (cEA P) (show 0<=4-R.pi by grind);have h2:(R.pF q:Rat)<=((2^(q+2):Nat):Rat):=by
  have:((2^(q+2):Nat):Rat)=((2^q:Nat):Rat)*4:=by rw[cDU];push_cast;norm_cast
  grind
 have h3:R.pF q<=2^(q+2):=by exact_mod_cast h2
 have h4:R.pF q<2^(q+3):=by
  have:2^(q+3)=2*2^(q+2):=by rw[cDS];omega
  have:=cBT (n:=q+2) (show 0<2 by decide);omega
 have:=dG.2 h4;omega
theorem spec:jL E f112 aF (pN .i64) sp:=by
 intro p h;refine(start p).trans ((gP h).trans ?_);have b:=aVM h;refine(gP ⟨rfl,M6.aZ _,by rw[M6.bZ];exact b,h.1,h.2⟩).trans ?_;rw[M6.bZ];rfl
def aJ:dK:=orc1 (pN .i64) sp
theorem ok:OK 112 aJ:=(fJ E aF (aA tB.ok (aA aQI.ok aD)) func112).qB rfl spec
end uA
namespace iM
def E:=mE [(112,uA.aJ),(113,Eo.aJ),(114,SMul.aJ),(115,nI.aJ),(116,cR.aJ)] 48 [] [] []
def aF:=bd f64
theorem aX:Nk E aF:=nk
theorem start a c d b:aI E f64 aF [D.agg [sc (bool a),ints u64 c,sc (int i64 d)],D.s (sc (int i64 b))]=letI P:=uA.uO b;letI F:=i64.wrap (b+8);letI A:=SMul.eS ((a,c,d).fst,(a,c,d).snd.fst,(a,c,d).snd.snd,(a,c,d).fst,(a,c,d).snd.fst,(a,c,d).snd.snd);aO (1<=b/\b<=70000) (aC (isNeg P.fst.fst) fun e=>aC (M6.dg P.fst.fst.natAbs) fun f=>aC P.fst.snd fun g=>aC (isNeg P.snd.fst) fun h=>aC (M6.dg P.snd.fst.natAbs) fun i=>aC P.snd.snd fun j=>letI Q:=(e,f,g,h,i,j);letI B:=SMul.eS Q;letI O:=M.shD true (SMul.Av A B) F;letI I:=M.shD false (SMul.Au A B) F;aO (aR (a,c,d)) (aO ((fA (a,c,d,a,c,d)/\fA Q)/\(1<=i64.wrap (b+8)/\i64.wrap (b+8)<=70000)/\SMul.aSS (dv (iH ((a,c,d).fst,(a,c,d).snd.fst,(a,c,d).snd.snd,(a,c,d).fst,(a,c,d).snd.fst,(a,c,d).snd.snd)),dv (iI ((a,c,d).fst,(a,c,d).snd.fst,(a,c,d).snd.snd,(a,c,d).fst,(a,c,d).snd.fst,(a,c,d).snd.snd))) (dv (iH Q),dv (iI Q))/\yD false (SMul.Au A B) F=true/\yD true (SMul.Av A B) F=true) (aC (isNeg I.fst) fun k=>aC (M6.dg I.fst.natAbs) fun l=>aC I.snd fun m=>aC (isNeg O.fst) fun n=>aC (M6.dg O.fst.natAbs) fun o=>aC O.snd fun p=>letI C:=(k,l,m,n,o,p);letI N:=fV.Mi (dv (iI C)) (b+2);letI K:=fV.Mh (dv (iH C)) (b+2);letI H:=bI.sW (dv (cR.Bi C)) (b+2);letI G:=bI.sA (dv (cR.uF C)) (b+2);aO (nI.Wy C b) (aC (isNeg K.fst) fun q=>aC (M6.dg K.fst.natAbs) fun r=>aC K.snd fun s=>aC (isNeg N.fst) fun t=>aC (M6.dg N.fst.natAbs) fun u=>aC N.snd fun v=>aO (cR.aCI C b) (aC (isNeg H.fst) fun w=>aC (M6.dg H.fst.natAbs) fun x=>aC H.snd fun y=>aC (isNeg G.fst) fun z=>aC (M6.dg G.fst.natAbs) fun aa=>aC G.snd fun ab=>some [D.agg [sc (bool q),ints u64 r,sc (int i64 s),sc (bool t),ints u64 u,sc (int i64 v)],D.agg [sc (bool w),ints u64 x,sc (int i64 y),sc (bool z),ints u64 aa,sc (int i64 ab)]]))))):=eJ aX
def Em(r:Int×Int)(q:Int):(Int×Int)×(Int×Int):=(shD false (SMul.Au (r,r) (uA.uO q)) (q+8),shD true (SMul.Av (r,r) (uA.uO q)) (q+8))
def bHA(r:Int×Int)(q:Int):yA:=nM (Em r q).1 (Em r q).2
def aUK(r:Int×Int)(q:Int):Prop:=fA (nM (uA.uO q).1 (uA.uO q).2)/\SMul.aSS (r,r) (uA.uO q)/\yD false (SMul.Au (r,r) (uA.uO q)) (q+8)=true/\yD true (SMul.Av (r,r) (uA.uO q)) (q+8)=true/\nI.Wy (bHA r q) q/\cR.aCI (bHA r q) q
def sp(x:gQ)(q:Int):Prop×List D:=(aR x/\(1<=q/\q<=66500)/\aUK (dv x) q,[wG (gS (Em (dv x) q).1 (Em (dv x) q).2 (q+2)).1 (gS (Em (dv x) q).1 (Em (dv x) q).2 (q+2)).2,wG (gC (Em (dv x) q).1 (Em (dv x) q).2 (q+2)).1 (gC (Em (dv x) q).1 (Em (dv x) q).2 (q+2)).2])
theorem fold(a b:Int×Int):(isNeg a.1,M6.dg a.1.natAbs,a.2,isNeg b.1,M6.dg b.1.natAbs,b.2)=nM a b:=rfl
theorem spec:hI E f64 aF jO (pN .i64) sp:=by
 rintro x q ⟨hx,hq,h1,h2,h3,h4,h5,h6⟩;obtain⟨a,b,c⟩:=x;have w:i64.wrap (q+8)=q+8:=wrap_i64;have eP:SMul.eS (nM (uA.uO q).1 (uA.uO q).2)=uA.uO q:=by
  show(dv (iH (nM _ _)),dv (iI (nM _ _)))=_;rw[pQ,pS]
 have sx:fA (a,b,c,a,b,c):=⟨hx,hx,Sj _⟩;refine(start a b c q).trans ((gP ⟨hq.1,by omega⟩).trans ?_);rw[aH,aH,aH,aH,aH,aH,fold,w,eP];refine(gP hx).trans ((gP ⟨⟨sx,h1⟩,⟨by omega,by omega⟩,by rw[pQ,pS];exact h2,h3,h4⟩).trans ?_);rw[aH,aH,aH,aH,aH,aH,fold];have e1:dv (iH (bHA (dv (a,b,c)) q))=(Em (dv (a,b,c)) q).1:=pQ _ _;have e2:dv (iI (bHA (dv (a,b,c)) q))=(Em (dv (a,b,c)) q).2:=pS _ _;have f:nM (M.shD false (SMul.Au (SMul.eS (a,b,c,a,b,c)) (uA.uO q)) (q+8)) (M.shD true (SMul.Av (SMul.eS (a,b,c,a,b,c)) (uA.uO q)) (q+8))=bHA (dv (a,b,c)) q:=rfl;change aO (nI.Wy (nM (M.shD false (SMul.Au (SMul.eS (a,b,c,a,b,c)) (uA.uO q)) (q+8)) (M.shD true (SMul.Av (SMul.eS (a,b,c,a,b,c)) (uA.uO q)) (q+8))) q) _=_;rw[f,gP h5,aH,aH,aH,aH,aH,aH,gP h6,e1,e2];rfl
def aJ:dK:=orc2 jO (pN .i64) sp
theorem ok:OK 64 aJ:=(fJ E aF (aA uA.ok (aA Eo.ok (aA SMul.ok (aA nI.ok (aA cR.ok aD))))) func64).nF rfl spec
end iM
end W
namespace M
open Go AI W
structure bHB(r:Int×Int):Prop where
 wL:kE r
 b:bl r.1.natAbs<=1100
 e:-1100<=r.2/\r.2<=0
 q:R.ab (R.qz r)<=1/4
 g:R.pz (-1075)<=R.ab (R.qz r)
theorem aSF{q:Int}(hq:1<=q/\q<=66500):(kE (uA.uO q).1/\kE (uA.uO q).2)/\(bl (uA.uO q).1.1.natAbs<=100001/\bl (uA.uO q).2.1.natAbs<=100001)/\(-70000<=(uA.uO q).1.2/\(uA.uO q).1.2<=200000)/\(-70000<=(uA.uO q).2.2/\(uA.uO q).2.2<=200000)/\R.qz (uA.uO q).1<=R.pi/\R.pi<=R.qz (uA.uO q).2/\R.qz (uA.uO q).2-R.qz (uA.uO q).1=R.pz (-q):=by
 have hb:=uA.aVM (p:=q) ⟨hq.1,by omega⟩;have Fx:bl ((R.pF q.toNat:Int)+1).natAbs<=100001:=by
  have h1:=dG.1 hb;refine dG.2 ?_;rw[show((R.pF q.toNat:Int)+1).natAbs=R.pF q.toNat+1 by omega,cDS];omega
 have rW:bl ((R.pF q.toNat:Int)).natAbs<=100001:=by rw[cEJ];omega
 have i1:iF (R.pF q.toNat:Int) (-q)=true:=iD (by omega) (by omega);have i2:iF ((R.pF q.toNat:Int)+1) (-q)=true:=iD (by omega) (by omega);have ex:∀z:Int,bl z.natAbs<=100001->-70000<=(aN z (-q)).2/\(aN z (-q)).2<=200000:=by
  intro z hz
  by_cases h0:z=0
  ·rw[h0,fN];decide
  ·have h1:=qC (e:=-q) h0;have h2:=(lI (e:=-q) h0).2;have h3:=Lu (n:=z.natAbs) (by omega);have h4:tz z.natAbs<=100001:=by
    rcases Nat.lt_or_ge 100001 (tz z.natAbs)with h |h
    ·have:=dG.1 hz;have h5:2^100001<=2^tz z.natAbs:=iC;omega
    ·exact h
   omega
 have fl:=R.Aq (q:=q.toNat) (by omega);have P:=R.aAZ q;have e:R.pz q=((2^q.toNat:Nat):Rat):=by
  have:=R.lP q.toNat;rwa [show((q.toNat:Nat):Int)=q by omega]at this
 rw[<-e]at fl;have z0:=R.dA (-q);have m1:=R.aE (cEA z0) (show 0<=R.pz q*R.pi-(R.pF q.toNat:Rat) by grind);have m2:=R.aE (cEA z0) (show 0<=(R.pF q.toNat:Rat)+1-R.pz q*R.pi by grind);have k:R.pz (-q)*(R.pz q*R.pi)=R.pi:=by rw[<-cKA,Rat.mul_comm (R.pz (-q)),P];grind
 have q1:R.qz (uA.uO q).1=(R.pF q.toNat:Rat)*R.pz (-q):=by
  show R.qz (aN _ _)=_;rw[nY,cKC]
 have q2:R.qz (uA.uO q).2=((R.pF q.toNat:Rat)+1)*R.pz (-q):=by
  show R.qz (aN _ _)=_;rw[nY,cLT,cKC,show((1:Int):Rat)=1 by norm_cast]
 rw[q1,q2];exact⟨⟨gZ i1 (by omega),gZ i2 (by omega)⟩,⟨bZP (wO _ _) rW,bZP (wO _ _) Fx⟩,ex _ rW,ex _ Fx,by grind,by grind,by grind⟩
theorem aMK{a b:Int×Int}{m n:Nat}(ha:bl a.1.natAbs<=m)(hb:bl b.1.natAbs<=n)(h:m+n<=524288)(e1:-1048576<=a.2+b.2)(e2:a.2+b.2<=500000):eR.mJ a b=true/\kE (eR.gT a b):=by
 have b0:=bZP (Sn a.1.natAbs b.1.natAbs) (Nat.add_le_add ha hb);rw[<-Int.natAbs_mul]at b0;have i:iF (a.1*b.1) (a.2+b.2)=true:=iD (by omega) (by omega);refine⟨?_,gZ i (by omega)⟩;unfold eR.mJ fit;rw[i,decide_eq_true (by omega)];rfl
theorem bAN{r:Int×Int}{p:Int}(h:bHB r)(hp:1<=p/\p<=66000):iM.aUK r (p+16)/\bNZ (iM.Em r (p+16)).1 (iM.Em r (p+16)).2 (p-6) (p+18) (R.qz r*R.pi):=by
 obtain⟨aHQ,hb,he,hq,hg⟩:=h;obtain⟨⟨u1,u2⟩,⟨b1,b2⟩,x1,x2,l1,l2,w⟩:=aSF (q:=p+16) (by omega);obtain⟨o1,n1⟩:=aMK hb b1 (by omega) (by omega) (by omega);obtain⟨o2,n2⟩:=aMK hb b2 (by omega) (by omega) (by omega);have sP:fA (nM (uA.uO (p+16)).1 (uA.uO (p+16)).2):=yH u1 u2 (lN.2 (by grind));have mo:SMul.aSS (r,r) (uA.uO (p+16)):=⟨o1,o2,o1,o2⟩;obtain⟨g1,g2⟩:=aXX (a:=(r,r)) (b:=uA.uO (p+16)) (x:=R.qz r) (y:=R.pi) cFB cFB l1 l2;have pL:kE (SMul.Au (r,r) (uA.uO (p+16)))/\(R.qz (SMul.Au (r,r) (uA.uO (p+16)))=R.qz r*R.qz (uA.uO (p+16)).1\/R.qz (SMul.Au (r,r) (uA.uO (p+16)))=R.qz r*R.qz (uA.uO (p+16)).2):=by
  unfold SMul.Au;rw[<-Fj,<-Fj];have ls:∀{s t:Int×Int} {A B:Rat},(kE s/\(R.qz s=A\/R.qz s=B))->(kE t/\(R.qz t=A\/R.qz t=B))->kE (Nc s t)/\(R.qz (Nc s t)=A\/R.qz (Nc s t)=B):=by
   intro s t A B hs ht;rcases aXY s t with h |h <;> rw[h] <;> assumption
  exact ls (ls (ls ⟨n1,.inl rfl⟩ ⟨n2,.inr rfl⟩) ⟨n1,.inl rfl⟩) ⟨n2,.inr rfl⟩
 have pH:kE (SMul.Av (r,r) (uA.uO (p+16)))/\(R.qz (SMul.Av (r,r) (uA.uO (p+16)))=R.qz r*R.qz (uA.uO (p+16)).1\/R.qz (SMul.Av (r,r) (uA.uO (p+16)))=R.qz r*R.qz (uA.uO (p+16)).2):=by
  unfold SMul.Av;rw[<-Fj,<-Fj];have ls:∀{s t:Int×Int} {A B:Rat},(kE s/\(R.qz s=A\/R.qz s=B))->(kE t/\(R.qz t=A\/R.qz t=B))->kE (Oa s t)/\(R.qz (Oa s t)=A\/R.qz (Oa s t)=B):=by
   intro s t A B hs ht;rcases aZN s t with h |h <;> rw[h] <;> assumption
  exact ls (ls (ls ⟨n1,.inl rfl⟩ ⟨n2,.inr rfl⟩) ⟨n1,.inl rfl⟩) ⟨n2,.inr rfl⟩
 have z0:=R.dA (-(p+16));have zs:R.pz (-(p+16))<=1/131072:=by
  have:=aXO (p:=p-7) (by omega);rwa [show -(p-7)-23=-(p+16) by omega]at this
 obtain⟨bSN,bSM⟩:=R.eY;generalize hL:SMul.Au (r,r) (uA.uO (p+16))=L at *;generalize hH:SMul.Av (r,r) (uA.uO (p+16))=H at *;generalize aNW:R.qz (uA.uO (p+16)).1=P1 at *;generalize bQP:R.qz (uA.uO (p+16)).2=P2 at *;generalize hz:R.pz (-(p+16))=z at *;have aJO:R.pz (-(p+16)-1)=z/2:=by
  have:=R.mP (-(p+16));rw[hz]at this;grind
 have a0:=R.aM (R.qz r);have bNW:∀(x y:Rat),0<=y->R.ab (x*y)=R.ab x*y:=fun x y hy=>by rw[R.fX,R.bP hy]
 have p1:0<=P1:=by grind
 have p2:0<=P2:=by grind
 have bRF:∀x:Rat,x=R.qz r*P1\/x=R.qz r*P2->R.ab x<=R.ab (R.qz r)*(16/5)/\R.ab x<=1:=by
  intro x hx;have m1:=R.aE a0 (show 0<=16/5-P1 by grind);have m2:=R.aE a0 (show 0<=16/5-P2 by grind);rcases hx with h |h
  ·rw[h,bNW _ _ p1];grind
  ·rw[h,bNW _ _ p2];grind
 obtain⟨bL,cL⟩:=bRF _ pL.2;obtain⟨bH,cH⟩:=bRF _ pH.2;have wd:R.qz H-R.qz L<=R.ab (R.qz r)*z:=by
  have t1:=R.Dm (R.qz r);have t2:=R.oH (R.qz r);have m1:=R.aE (show 0<=R.ab (R.qz r)-R.qz r by grind) (cEA z0);have m2:=R.aE (show 0<=R.ab (R.qz r)+R.qz r by grind) (cEA z0);have m3:=R.aE a0 (cEA z0);have e:R.qz r*P2=R.qz r*P1+R.qz r*z:=by
   rw[show P2=P1+z by grind];grind
  rcases pL.2 with h |h <;> rcases pH.2 with h' |h' <;> rw[h,h'] <;> grind
 have bIS:(1:Rat)<=R.pz 1100:=by rw[<-R.eB];exact R.cF (by decide)
 obtain⟨i1,i2,bx⟩:=aEV (s:=(L,H)) (V:=R.qz r*R.pi) (m:=0) (n:=p+16+8) pL.1 pH.1 cFB (by dsimp only;grind) (by dsimp only;grind) wd (by omega) (by dsimp only;grind) (by dsimp only;grind);have eA:iM.Em r (p+16)=(shD false L (p+16+8),shD true H (p+16+8)):=by
  unfold iM.Em;rw[hL,hH]
 have e7:R.pz (1-(p+16+8))*128=z:=by
  have:=R.fU (-(p+16)) (n:=7) (c:=128) (by norm_cast);rw[<-hz,<-this,show 1-(p+16+8)=-(p+16)-((7:Nat):Int) by omega]
 have bAL:R.ab (R.qz r*R.pi)=R.ab (R.qz r)*R.pi:=bNW _ _ (by grind);have bRS:R.pz (-1074)=2*R.pz (-1075):=by
  have:=R.mP (-1074);rw[show(-1074:Int)-1=-1075 by rfl]at this;grind
 have tr:=aKR (l:=(iM.Em r (p+16)).1) (h:=(iM.Em r (p+16)).2) (p:=p-6) (n:=p+18) (r:=R.qz r*R.pi) (by omega) (by omega) (by rw[eA];exact bx.pl) (by rw[eA];exact bx.ph) (by rw[eA];have:=bx.lo;dsimp only at this ⊢;grind) (by rw[eA];have:=bx.hi;dsimp only at this ⊢;grind)
  (by
   rw[eA,bAL,show -(p-6)-23=-(p+16)-1 by omega,aJO];have w2:=bx.wd;dsimp only at w2 ⊢;have m1:=R.aE (cEA z0) a0;have m2:=R.aE (cEA z0) (show 0<=R.ab (R.qz r)*(16/5)-R.ab (R.qz L) by grind);have m3:=R.aE (cEA z0) (show 0<=R.ab (R.qz r)*(16/5)-R.ab (R.qz H) by grind);have m4:=R.aE (R.aE (cEA z0) a0) (show 0<=R.pi-3 by grind);have e8:R.pz (1-(p+16+8))*(R.ab (R.qz L)+R.ab (R.qz H))*128=z*(R.ab (R.qz L)+R.ab (R.qz H)):=by rw[<-e7];grind
   grind)
  (by
   rw[bAL,bRS];have m1:=R.aE a0 (show 0<=R.pi-3 by grind);grind)
  (by
   rw[bAL];have m1:=R.aE a0 (show 0<=314160/100000-R.pi by grind);grind)
 refine⟨⟨sP,mo,by rw[hL];exact i1,by rw[hH];exact i2,?_,?_⟩,tr⟩
 ·have:=tr.so;rw[show p+18-2=p+16 by omega]at this;exact this
 ·have:=tr.co;rw[show p+18-2=p+16 by omega]at this;exact this
end M
namespace W
open Go AI M
namespace lZ
def E:=mE [(20,kW.aJ),(119,jH.aJ)] 41 [] [(2,[0,4,7,8,10,15,16])] []
def aF:=bd f66
theorem aX:Nk E aF:=nk
def L2 a b c d e f g h i j k l m n o p q r s t:=tM E f66 aF 2 [cA a,cA b,dR 2 44 [cX c,gJ d,dC e,cX f,gJ g,dC h],dR 3 44 [cX i,gJ j,dC k,cX l,gJ m,dC n],dR 4 44 [cX o,sc (slice none 0 0),dC p,cX q,sc (slice none 0 0),dC r],cA s,cA t]
theorem start a b c d f g h i j k l m n o e:aI E f66 aF [D.s (sc (int i64 a)),D.s (sc (int i64 b)),D.agg [sc (bool c),ints u64 d,sc (int i64 f),sc (bool g),ints u64 h,sc (int i64 i)],D.agg [sc (bool j),ints u64 k,sc (int i64 l),sc (bool m),ints u64 n,sc (int i64 o)],D.s (sc (int i64 e))]=lZ.L2 a e c d f g h i j k l m n o false 0 false 0 b 0:=eJ aX
theorem mK a b c d e f g h i j k l m n o p q r s t:L2 a b c d e f g h i j k l m n o p q r s t=letI F:=(i,j,k,l,m,n);letI O:=dv (iI F);letI N:=dv (iH F);letI C:=(c,d,e,f,g,h);letI H:=dv (iI C);letI G:=dv (iH C);letI B:=jH.Mr b G H N O;letI K:=aN B.fst B.snd;letI A:=jH.Mq b G H N O;letI I:=aN A.fst A.snd;aB (decide (t<s)) (aO (fA C) (aC (isNeg (-H.fst)) fun u=>aC (M6.dg (-H.fst).natAbs) fun v=>aC H.snd fun w=>aC (isNeg (-G.fst)) fun x=>aC (M6.dg (-G.fst).natAbs) fun y=>aC G.snd fun z=>lZ.L2 a b i j k l m n u v w x y z o p q r s (i64.wrap (t+1)))) (aB (a==4) (some [D.agg [sc (bool c),ints u64 d,sc (int i64 e),sc (bool f),ints u64 g,sc (int i64 h)]]) (aB (a==5) (some [D.agg [sc (bool i),ints u64 j,sc (int i64 k),sc (bool l),ints u64 m,sc (int i64 n)]]) (aO (fA C/\fA F/\(1<=b/\b<=70000)/\fZ.tI N O≠0/\(bl G.fst.natAbs<=262144/\bl H.fst.natAbs<=262144/\bl N.fst.natAbs<=262144/\bl O.fst.natAbs<=262144)/\iF A.fst A.snd=true/\iF B.fst B.snd=true) (aC (isNeg I.fst) fun aa=>aC (M6.dg I.fst.natAbs) fun ab=>aC I.snd fun ac=>aC (isNeg K.fst) fun ad=>aC (M6.dg K.fst.natAbs) fun ae=>aC K.snd fun af=>some [D.agg [sc (bool aa),ints u64 ab,sc (int i64 ac),sc (bool ad),ints u64 ae,sc (int i64 af)]])))):=lJ aX
def aUZ (fn : Int) (n : Nat) (s c : (Int × Int) × (Int × Int)) (q : Int) : (Int × Int) × (Int × Int) :=
  bif fn == 4 then (VTurned.trn s c n).1 else bif fn == 5 then (VTurned.trn s c n).2 else
    (aN (jH.Mq q (VTurned.trn s c n).1.1 (VTurned.trn s c n).1.2 (VTurned.trn s c n).2.1 (VTurned.trn s c n).2.2).1 (jH.Mq q (VTurned.trn s c n).1.1 (VTurned.trn s c n).1.2 (VTurned.trn s c n).2.1 (VTurned.trn s c n).2.2).2,
     aN (jH.Mr q (VTurned.trn s c n).1.1 (VTurned.trn s c n).1.2 (VTurned.trn s c n).2.1 (VTurned.trn s c n).2.2).1 (jH.Mr q (VTurned.trn s c n).1.1 (VTurned.trn s c n).1.2 (VTurned.trn s c n).2.1 (VTurned.trn s c n).2.2).2)
def aSB(q:Int)(s c:(Int×Int)×(Int×Int)):Prop:=fZ.tI c.1 c.2≠0/\(bl s.1.1.natAbs<=262144/\bl s.2.1.natAbs<=262144/\bl c.1.1.natAbs<=262144/\bl c.2.1.natAbs<=262144)/\iF (jH.Mq q s.1 s.2 c.1 c.2).1 (jH.Mq q s.1 s.2 c.1 c.2).2=true/\iF (jH.Mr q s.1 s.2 c.1 c.2).1 (jH.Mr q s.1 s.2 c.1 c.2).2=true
abbrev eS(s:yA):(Int×Int)×(Int×Int):=(dv (iH s),dv (iI s))
def sp(fn k:Int)(s c:yA)(q:Int):Prop×List D:=((fA s/\fA c)/\(0<=k/\k<=3)/\(1<=q/\q<=70000)/\(fn≠4->fn≠5->aSB q (VTurned.trn (eS s) (eS c) k.toNat).1 (VTurned.trn (eS s) (eS c) k.toNat).2),[wG (aUZ fn k.toNat (eS s) (eS c) q).1 (aUZ fn k.toNat (eS s) (eS c) q).2])
theorem L(fn q:Int)(hq:1<=q/\q<=70000):∀(d k:Nat) (s c:yA),k+d<=1000->fA s->fA c->(fn≠4->fn≠5->aSB q (VTurned.trn (eS s) (eS c) d).1 (VTurned.trn (eS s) (eS c) d).2) ->
  L2 fn q s.1 s.2.1 s.2.2.1 s.2.2.2.1 s.2.2.2.2.1 s.2.2.2.2.2 c.1 c.2.1 c.2.2.1 c.2.2.2.1 c.2.2.2.2.1 c.2.2.2.2.2 false 0 false 0 ((k+d:Nat):Int) (k:Int)=some [wG (aUZ fn d (eS s) (eS c) q).1 (aUZ fn d (eS s) (eS c) q).2]
 |0,k,s,c,h,h1,h2,hk=>by
  rw[mK,aL];unfold aUZ VTurned.trn;unfold VTurned.trn at hk;dsimp only at hk ⊢
  by_cases f4:fn=4
  ·rw[cD f4,f4];show _=some [wG (dv (iH s)) (dv (iI s))];rw[h1.wG]
  ·rw[bJ f4,beq_eq_false_iff_ne.2 f4,cond_false]
   by_cases f5:fn=5
   ·rw[cD f5,f5];show _=some [wG (dv (iH c)) (dv (iI c))];rw[h2.wG]
   ·rw[bJ f5,beq_eq_false_iff_ne.2 f5,cond_false];obtain⟨k0,k1,k2,k3⟩:=hk f4 f5;exact gP ⟨h1,h2,hq,k0,k1,k2,k3⟩
 |d+1,k,s,c,h,h1,h2,hk=>by
  have e:i64.wrap ((k:Int)+1)=((k+1:Nat):Int):=by rw[wrap_i64];omega
  rw[mK,aQ,gP h1];simp only[aH,e];have en:eS (nM (kW.xK (dv (iI s))) (kW.xK (dv (iH s))))=(kW.xK (dv (iI s)),kW.xK (dv (iH s))):=by
   show(dv (iH (nM _ _)),dv (iI (nM _ _)))=_;rw[pQ,pS]
  have r:=L fn q hq d (k+1) c (nM (kW.xK (dv (iI s))) (kW.xK (dv (iH s)))) (by omega) h2 (VTurned.aMJ h1) (by rw[en];exact hk);rw[en,show k+1+d=k+(d+1) by omega]at r;exact r
theorem spec(fn k:Int)(s c:yA)(q:Int)(h:(sp fn k s c q).1):aI E f66 aF [(pN .i64).put fn,(pN .i64).put k,zQ.put s,zQ.put c,(pN .i64).put q]=some (sp fn k s c q).2:=by
 obtain⟨⟨h1,h2⟩,⟨q0,q1⟩,hq,hk⟩:=h;refine(start fn k s.1 s.2.1 s.2.2.1 s.2.2.2.1 s.2.2.2.2.1 s.2.2.2.2.2 c.1 c.2.1 c.2.2.1 c.2.2.2.1 c.2.2.2.2.1 c.2.2.2.2.2 q).trans ?_;obtain⟨n,rfl⟩:=cDX q0;have:=L fn q hq n 0 s c (by omega) h1 h2 hk;rw[Nat.zero_add]at this;exact this
def aJ:dK:=orc5 (pN .i64) (pN .i64) zQ zQ (pN .i64) sp
theorem ok:OK 66 aJ:=(fJ E aF (aA kW.ok (aA jH.ok aD)) func66).bJN rfl spec
end lZ
end W
namespace M
open Go AI W
def tv(fn k:Int)(s c:Rat):Rat:=if fn=4 then R.rs k s c else if fn=5 then R.rc k s c else R.rs k s c/R.rc k s c
def tS(r:Int×Int)(p:Int):(Int×Int)×(Int×Int):=gS (iM.Em r (p+16)).1 (iM.Em r (p+16)).2 (p+18)
def tC(r:Int×Int)(p:Int):(Int×Int)×(Int×Int):=gC (iM.Em r (p+16)).1 (iM.Em r (p+16)).2 (p+18)
def tE(fn k:Int)(r:Int×Int)(p:Int):(Int×Int)×(Int×Int):=lZ.aUZ fn (k%4).toNat (tS r p) (tC r p) (p+16)
def tO(fn k:Int)(r:Int×Int)(p:Int):(Int×Int)×(Int×Int):=(shD false (tE fn k r p).1 (p+20),shD true (tE fn k r p).2 (p+20))
structure bYM(fn k:Int)(r:Int×Int)(p:Int):Prop where
 ci:iM.aUK r (p+16)
 sS:fA (nM (tS r p).1 (tS r p).2)
 sC:fA (nM (tC r p).1 (tC r p).2)
 qu:lZ.aSB (p+16) (VTurned.trn (tS r p) (tC r p) (k%4).toNat).1 (VTurned.trn (tS r p) (tC r p) (k%4).toNat).2
 re:fA (nM (tE fn k r p).1 (tE fn k r p).2)
 s1:yD false (tE fn k r p).1 (p+20)=true
 s2:yD true (tE fn k r p).2 (p+20)=true
 v0:tv fn k (R.sn (R.qz r*R.pi)) (R.cs (R.qz r*R.pi))≠0
 vl:R.pz (-1075)<=R.ab (tv fn k (R.sn (R.qz r*R.pi)) (R.cs (R.qz r*R.pi)))
 vh:R.ab (tv fn k (R.sn (R.qz r*R.pi)) (R.cs (R.qz r*R.pi)))<=R.pz 1075
 bx:Bx (tO fn k r p) (tv fn k (R.sn (R.qz r*R.pi)) (R.cs (R.qz r*R.pi))) (R.pz (-p-1)*R.ab (tv fn k (R.sn (R.qz r*R.pi)) (R.cs (R.qz r*R.pi)))) (mg (p-6))
 b45:fn=4\/fn=5->Bx (tO fn k r p) (tv fn k (R.sn (R.qz r*R.pi)) (R.cs (R.qz r*R.pi))) (R.pz (-p-5)*R.ab (tv fn k (R.sn (R.qz r*R.pi)) (R.cs (R.qz r*R.pi)))) (mg (p-6))
 bits:(bl (tO fn k r p).1.1.natAbs:Int)<=p+21/\(bl (tO fn k r p).2.1.natAbs:Int)<=p+21
 exps:-p-1200<=(tO fn k r p).1.2/\-p-1200<=(tO fn k r p).2.2
 on:fn=4\/fn=5->On (tO fn k r p)
theorem aGJ{s:(Int×Int)×(Int×Int)}{V ρ m:Rat}(h:Bx s V (ρ*R.ab V) m)(r1:ρ<=1/4)(V0:V≠0) :
  3/4*R.ab V<=R.ab (R.qz s.1)/\R.ab (R.qz s.1)<=5/4*R.ab V/\3/4*R.ab V<=R.ab (R.qz s.2)/\R.ab (R.qz s.2)<=5/4*R.ab V/\0<R.ab V:=by
 obtain⟨_,_,_,_,m0,lo,hi,wd⟩:=h;have a0:0<R.ab V:=by
  unfold R.ab;split <;> grind
 have k:=R.aE (cEA a0) (show 0<=1/4-ρ by grind);generalize hρ:ρ*R.ab V=W at *
 by_cases c:0<V
 ·have e:R.ab V=V:=R.bP (cEA c);rw[e]at a0 k hρ;rw[e];rw[R.bP (show 0<=R.qz s.1 by grind),R.bP (show 0<=R.qz s.2 by grind)];exact⟨by grind,by grind,by grind,by grind,c⟩
 ·have e:R.ab V=-V:=by unfold R.ab;rw[if_neg (by grind)]
  rw[e]at a0 k hρ;rw[e];rw[<-R.iV,R.bP (show 0<=-R.qz s.1 by grind),<-R.iV,R.bP (show 0<=-R.qz s.2 by grind)];exact⟨by grind,by grind,by grind,by grind,by grind⟩
theorem aKP{fn k:Int}{r:Int×Int}{p:Int}(h:bHB r)(hp:1<=p/\p<=66000)(hf:fn=4\/fn=5\/fn=6):bYM fn k r p:=by
 obtain⟨ci,tr⟩:=bAN h hp;obtain⟨_,_,bs,bc,os,oc⟩:=tr;obtain⟨ρ,hρ⟩:∃ρ,ρ=R.qz r*R.pi:=⟨_,rfl⟩;obtain⟨bSN,bSM⟩:=R.eY;have ar:R.ab ρ=R.ab (R.qz r)*R.pi:=by rw[hρ,R.fX,R.bP (show 0<=R.pi by grind)]
 have a0:=R.aM (R.qz r);have rg:3*R.pz (-1075)<=R.ab ρ:=by
  rw[ar];have:=h.g;have:=R.aE a0 (show 0<=R.pi-3 by grind);grind
 have rn:R.ab ρ<=79/100:=by
  rw[ar];have:=h.q;have:=R.aE a0 (show 0<=314160/100000-R.pi by grind);grind
 rw[<-hρ]at bs bc;rw[show gS (iM.Em r (p+16)).1 (iM.Em r (p+16)).2 (p+18)=tS r p from rfl]at bs os;rw[show gC (iM.Em r (p+16)).1 (iM.Em r (p+16)).2 (p+18)=tC r p from rfl]at bc oc;rw[show -(p-6)-12=-p-6 by omega]at bs bc;have bJH:=R.dA (-1075);have bTE:R.pz (-1075)<=1/4:=by
  have:=R.cF (show(-1075:Int)<=-2 by omega);have e:=R.fU 0 (n:=2) (c:=4) (by norm_cast);rw[R.eB,show(0:Int)-((2:Nat):Int)=-2 by rfl]at e;grind
 obtain⟨c1,c2⟩:=R.Yx (r:=ρ) (by grind);have s0:R.pz (-1075)<=R.ab (R.sn ρ)/\R.ab (R.sn ρ)<=1:=by
  rw[<-R.aLK (by grind)];obtain⟨a,b⟩:=R.aDY (R.aM ρ) (by grind);constructor <;> grind
 have s1:R.pz (-1075)<=R.ab (R.cs ρ)/\R.ab (R.cs ρ)<=1:=by
  rw[R.bP (show 0<=R.cs ρ by grind)];constructor <;> grind
 obtain⟨S,hS⟩:∃S,S=R.rs k (R.sn ρ) (R.cs ρ):=⟨_,rfl⟩;obtain⟨C,hC⟩:∃C,C=R.rc k (R.sn ρ) (R.cs ρ):=⟨_,rfl⟩;have sS:R.pz (-1075)<=R.ab S/\R.ab S<=1:=by
  rw[hS,aEG];split <;> assumption
 have sC:R.pz (-1075)<=R.ab C/\R.ab C<=1:=by
  rw[hC,aEL];split <;> assumption
 have Nb:∀v:Rat,R.pz (-1075)<=R.ab v->v≠0:=fun v hv hz=>by rw[hz,R.bP cFB]at hv;grind
 have S0:=Nb _ sS.1;have C0:=Nb _ sC.1;obtain⟨z,hz⟩:∃z,z=R.pz (-p-20):=⟨_,rfl⟩;have z0:=R.dA (-p-20);rw[<-hz]at z0;have pw:∀(a:Int) (n:Nat) (c:Rat),a=-p-20+(n:Int)->((2^n:Nat):Rat)=c->R.pz a=c*z:=fun a n c ha hc=>by
  rw[ha,R.dZ,hc,hz];grind
 have e6:=pw (-p-6) 14 16384 (by omega) (by norm_cast);have e5:=pw (-p-5) 15 32768 (by omega) (by norm_cast);have e1:=pw (-p-1) 19 524288 (by omega) (by norm_cast);have aJY:=pw (2-(p+16)) 6 64 (by omega) (by norm_cast);have bIR:=pw (1-(p+20)) 1 2 (by omega) (by norm_cast);have zs:z<=1/2097152:=by
  have:=R.cF (show -p-20<=-21 by omega);have e:=R.fU 0 (n:=21) (c:=2097152) (by norm_cast);rw[R.eB,show(0:Int)-((21:Nat):Int)=-21 by rfl]at e;grind
 obtain⟨b1,b2⟩:=Bx.trn bs bc (k:=k);rw[<-hS]at b1;rw[<-hC]at b2;have aXW:=On.trn os oc (k%4).toNat;obtain⟨t,ht⟩:∃t,t=VTurned.trn (tS r p) (tC r p) (k%4).toNat:=⟨_,rfl⟩;rw[<-ht]at b1 b2 aXW;have b1:Bx t.1 S (R.pz (-p-6)*R.ab S) (mg (p-6)):=by
  refine xU b1 ?_;rw[hS,aEG];split <;> exact cFB
 have b2:Bx t.2 C (R.pz (-p-6)*R.ab C) (mg (p-6)):=by
  refine xU b2 ?_;rw[hC,aEL];split <;> exact cFB
 rw[e6]at b1 b2;have n1:=Ik b1 (by grind) S0;have n2:=Ik b2 (by grind) C0;have bGH:R.pz (-1300)<=R.pz (-1075)/2:=by
  have:=R.mP (-1075);have:=R.cF (show(-1300:Int)<=-1075-1 by omega);grind
 have z1:Kh t.1.1:=An b1.bl (uG (by grind)) (by grind) (by grind);have z2:Kh t.1.2:=An b1.bh (uG (by grind)) (by grind) (by grind);have z3:Kh t.2.1:=An b2.bl (uG (by grind)) (by grind) (by grind);have z4:Kh t.2.2:=An b2.bh (uG (by grind)) (by grind) (by grind);have bGD:S/C*C=S:=by grind
 obtain⟨q0,q1,q2,bq⟩:=aLU (p:=p+16) b1 b2 S0 C0 sC.2 (by grind) (by grind) bGD (by omega) z1 z2 z3 z4;rw[aJY]at bq;have aV:R.ab (S/C)*R.ab C=R.ab S:=by rw[<-R.fX,bGD]
 have bTI:R.pz (-1075)*R.pz 1075=1:=by rw[<-R.iU];exact R.eB
 have bYO:1<=R.pz 1075:=by rw[<-R.eB];exact R.cF (by omega)
 have tV:R.pz (-1075)<=R.ab (S/C)/\R.ab (S/C)<=R.pz 1075:=by
  have a0:=R.aM (S/C);generalize R.ab (S/C)=a at *;constructor
  ·have:=R.aE a0 (show 0<=1-R.ab C by grind);grind
  ·refine R.cG bJH ?_;have:=R.aE a0 (show 0<=R.ab C-R.pz (-1075) by grind);grind
 have bNY:=Nb _ tV.1;obtain⟨V,hV⟩:∃V,V=tv fn k (R.sn ρ) (R.cs ρ):=⟨_,rfl⟩;obtain⟨bE,vl,vh,V0,oE⟩:Bx (tE fn k r p) V (200000*z*R.ab V) (mg (p-6))/\R.pz (-1075)<=R.ab V/\R.ab V<=R.pz 1075/\V≠0/\(fn=4\/fn=5->On (tE fn k r p)/\Bx (tE fn k r p) V (16384*z*R.ab V) (mg (p-6))):=by
  rcases hf with rfl |rfl |rfl
  ·have a:V=S:=by rw[hV,hS];rfl
   have b:tE 4 k r p=t.1:=by rw[ht];rfl
   rw[a,b];exact⟨xU b1 (by have:=R.aE (cEA z0) (R.aM S);grind),sS.1,by grind,S0,fun _=>⟨aXW.1,b1⟩⟩
  ·have a:V=C:=by rw[hV,hC];rfl
   have b:tE 5 k r p=t.2:=by rw[ht];rfl
   rw[a,b];exact⟨xU b2 (by have:=R.aE (cEA z0) (R.aM C);grind),sC.1,by grind,C0,fun _=>⟨aXW.2,b2⟩⟩
  ·have a:V=S/C:=by rw[hV,hS,hC];rfl
   have b:tE 6 k r p=(aN (jH.Mq (p+16) t.1.1 t.1.2 t.2.1 t.2.2).1 (jH.Mq (p+16) t.1.1 t.1.2 t.2.1 t.2.2).2,aN (jH.Mr (p+16) t.1.1 t.1.2 t.2.1 t.2.2).1 (jH.Mr (p+16) t.1.1 t.1.2 t.2.1 t.2.2).2):=by rw[ht];rfl
   rw[a,b];exact⟨xU bq (by have:=R.aE (cEA z0) (R.aM (S/C));grind),tV.1,tV.2,bNY,fun h=>by omega⟩
 have nE:=aGJ bE (by grind) V0;have bHC:2*R.pz 1075<=R.pz 1100:=by rw[<-R.jX];exact R.cF (by omega)
 obtain⟨bJC,bJB,bO⟩:=aBB (n:=p+20) bE (by omega) (by grind) (by grind);rw[bIR]at bO;have bX:Bx (tO fn k r p) V (524288*z*R.ab V) (mg (p-6)):=by
  refine xU bO ?_;have k1:=R.aE (cEA z0) (show 0<=5/4*R.ab V-R.ab (R.qz (tE fn k r p).1) by grind);have k2:=R.aE (cEA z0) (show 0<=5/4*R.ab V-R.ab (R.qz (tE fn k r p).2) by grind);have k3:=R.aE (cEA z0) (R.aM V);grind
 have bY:fn=4\/fn=5->Bx (tO fn k r p) V (32768*z*R.ab V) (mg (p-6)):=by
  intro h;obtain⟨_,_,b⟩:=aBB (n:=p+20) (oE h).2 (by omega) (by grind) (by grind);rw[bIR]at b;refine xU b ?_;have k1:=R.aE (cEA z0) (show 0<=5/4*R.ab V-R.ab (R.qz (tE fn k r p).1) by grind);have k2:=R.aE (cEA z0) (show 0<=5/4*R.ab V-R.ab (R.qz (tE fn k r p).2) by grind);have k3:=R.aE (cEA z0) (R.aM V);grind
 have g1:=Ao false (tE fn k r p).1 (p+20).toNat;have g2:=Ao true (tE fn k r p).2 (p+20).toNat;rw[show(((p+20).toNat:Nat):Int)=p+20 by omega]at g1 g2;have nX:=aGJ bX (by grind) V0;have m1:(tO fn k r p).1.1≠0:=uG (by grind);have m2:(tO fn k r p).2.1≠0:=uG (by grind);have x1:=Kq (up:=false) (p:=(tE fn k r p).1) (n:=p+20) m1;have x2:=Kq (up:=true) (p:=(tE fn k r p).2) (n:=p+20) m2;have bGI:R.pz (-1076)<=3/4*R.pz (-1075):=by
  have:=R.mP (-1075);rw[show(-1075:Int)-1=-1076 by rfl]at this;grind
 have y1:=Dy (p:=(tE fn k r p).1) (E:=-1076) (uG (by grind)) (by grind);have y2:=Dy (p:=(tE fn k r p).2) (E:=-1076) (uG (by grind)) (by grind);have Nm:tv fn k (R.sn (R.qz r*R.pi)) (R.cs (R.qz r*R.pi))=V:=by rw[<-hρ,hV]
 refine⟨ci,bs.Al,bc.Al,?_,bE.Al,bJC,bJB,?_,?_,?_,?_,?_,?_,?_,?_⟩
 ·rw[<-ht];exact⟨q0,⟨bZP z1.1 (by omega),bZP z2.1 (by omega),bZP z3.1 (by omega),bZP z4.1 (by omega)⟩,q1,q2⟩
 ·rw[Nm];exact V0
 ·rw[Nm];exact vl
 ·rw[Nm];exact vh
 ·rw[Nm,e1];exact bX
 ·rw[Nm,e5];exact bY
 ·constructor
  ·show((bl (shD false (tE fn k r p).1 (p+20)).1.natAbs:Nat):Int)<=_;omega
  ·show((bl (shD true (tE fn k r p).2 (p+20)).1.natAbs:Nat):Int)<=_;omega
 ·constructor
  ·show -p-1200<=(shD false (tE fn k r p).1 (p+20)).2;omega
  ·show -p-1200<=(shD true (tE fn k r p).2 (p+20)).2;omega
 ·intro h2;exact⟨Tn (by omega) (oE h2).1.1,Tn (by omega) (oE h2).1.2⟩
theorem aRV{m e:Int}(he:e<0):-p2 (-1-e)<=bS.Qa (m,e)/\bS.Qa (m,e)<p2 (-1-e):=by
 unfold bS.Qa bS.uN
 try dsimp only
 rw[aP,aP];have h1:p2 (-e)=p2 (-1-e)*2:=by
  have:=tJ (m:=-1-e) (n:=1) (by omega) (by omega);rwa [show -1-e+1=-e by omega]at this
 have h2:p2 (1-e)=p2 (-1-e)*4:=by
  have:=tJ (m:=-1-e) (n:=2) (by omega) (by omega);rwa [show -1-e+2=1-e by omega]at this
 rw[h1,h2];have hp:=Ef (-1-e);generalize p2 (-1-e)=v at *;have a1:=cHO (m*4+v*2) (v*4);have a2:=cHP (m*4+v*2) (show v*4≠0 by omega);have a3:=cHQ (m*4+v*2) (show 0<v*4 by omega);generalize (m*4+v*2)/(v*4)=K at *;have e1:v*4*K=K*v*4:=by rw[Int.mul_comm,cFA]
 have e2:K*(v*2)=K*v*2:=by rw[cFA]
 rw[e1]at a1;rw[e2];generalize K*v=t at *;omega
theorem aXL{a:Int×Int}(he:-1074<=a.2/\a.2<=-2)(ho:a.1%2=1):bHB (bS.Eb a):=by
 obtain⟨m,e⟩:=a;dsimp only at he ho;have rr:=aRV (m:=m) (e:=e) (by omega);have hR:bS.Qa (m,e)=m*2-bS.uN (m,e)*p2 (-e):=by
  unfold bS.Qa;dsimp only;rw[aP]
 have hD:bS.Eb (m,e)=aN (bS.Qa (m,e)) (e-1):=rfl;have h4:p2 (-e)=p2 (-2-e)*4:=by
  have:=tJ (m:=-2-e) (n:=2) (by omega) (by omega);rwa [show -2-e+2=-e by omega]at this
 rw[h4,<-cFA]at hR;rw[hD];generalize bS.uN (m,e)*p2 (-2-e)=q at hR;generalize bS.Qa (m,e)=z at *;have z0:z≠0:=by omega
 obtain⟨j,hj⟩:=cDX (show 0<=-1-e by omega);have hp:p2 (-1-e)=((2^j:Nat):Int):=by rw[hj,Ar]
 have za:z.natAbs<=2^j:=by omega
 have zb:bl z.natAbs<=j+1:=dG.2 (by rw[cDS];have:=cBT (n:=j) (show 0<2 by decide);omega);have tl:tz z.natAbs<=j:=by
  have:=Lu (n:=z.natAbs) (by omega);rcases Nat.lt_or_ge j (tz z.natAbs)with h |h
  ·have h5:2^(j+1)<=2^tz z.natAbs:=iC;rw[cDS]at h5;have:=cBT (n:=j) (show 0<2 by decide);omega
  ·exact h
 have x1:=(lI (e:=e-1) z0).2;have eq:R.qz (aN z (e-1))=R.qz (z,e-1):=nY _ _;have e1:R.pz (e-1)*((2^j:Nat):Rat)=1/4:=by
  rw[<-R.dZ,show e-1+(j:Int)=-2 by omega];have e:=R.fU 0 (n:=2) (c:=4) (by norm_cast);rw[R.eB,show(0:Int)-((2:Nat):Int)=-2 by rfl]at e;grind
 have P:=R.dA (e-1);refine⟨gZ (iD (by omega) (by omega)) (by omega),bZP (wO _ _) (by omega),by omega,?_,?_⟩
 ·rw[eq,Sq];have h1:(z.natAbs:Rat)<=((2^j:Nat):Rat):=by exact_mod_cast za
  have:=R.aE (cEA P) (show 0<=((2^j:Nat):Rat)-(z.natAbs:Rat) by grind);dsimp only;grind
 ·rw[eq,Sq];have h1:(1:Rat)<=(z.natAbs:Rat):=by exact_mod_cast(show 1<=z.natAbs by omega)
  have:=R.aE (cEA P) (show 0<=(z.natAbs:Rat)-1 by grind);have:=R.cF (show(-1075:Int)<=e-1 by omega);dsimp only;grind
end M
namespace W
open Go AI M
namespace aCX
def E:=mE [(57,Zp.aJ)] 8 [] [] []
def aF:=bd f62
theorem aX:Nk E aF:=nk
theorem start a:aI E f62 aF [D.s (sc (int i64 a))]=letI A:=bif iF a 0 then aN a 0 else((0:Int),(0:Int));letI C:=M6.dg A.fst.natAbs;letI B:=bool (isNeg A.fst);aO (((-9223372036854775808:Int)<=a/\a<9223372036854775808)/\(-9223372036854775808:Int)<=(0:Int)/\(0:Int)<(9223372036854775808:Int)) (aO (((-9223372036854775808:Int)<=a/\a<9223372036854775808)/\(-9223372036854775808:Int)<=(0:Int)/\(0:Int)<(9223372036854775808:Int)) (some [D.agg [sc B,ints u64 C,sc (int i64 A.snd),sc B,ints u64 C,sc (int i64 A.snd)]])):=eJ aX
def sD(p q:Int×Int):D:=.agg [.sc (.bool (isNeg p.1)),.ints .u64 (M6.dg p.1.natAbs),.sc (.int .i64 p.2),.sc (.bool (isNeg q.1)),.ints .u64 (M6.dg q.1.natAbs),.sc (.int .i64 q.2)]
def sp(m:Int):Prop×List D:=(-9223372036854775808<=m/\m<9223372036854775808,[sD (aN m 0) (aN m 0)])
theorem spec:jL E f62 aF (pN .i64) sp:=by
 intro m h;have h:-9223372036854775808<=m/\m<9223372036854775808:=h;refine(start m).trans ?_;have hb:bl m.natAbs<=64:=dG.2 (by omega);rw[gP ⟨h,by omega,by omega⟩,gP ⟨h,by omega,by omega⟩];have e:(bif iF m 0 then aN m 0 else((0:Int),(0:Int)))=aN m 0:=by rw[iD (by omega) (by omega)];rfl
 rw[e];rfl
def aJ:dK:=orc1 (pN .i64) sp
theorem ok:OK 62 aJ:=(fJ E aF (aA Zp.ok aD) func62).qB rfl spec
end aCX
namespace Gq
def aZW(fn:Int)(b:Int):Int:=if(bN.gX 64 b).1=0 then(if fn=5 then 1 else 0)else if(fL.Bj fn (bN.gX 64 b)).2.1=true then -(fL.Bj fn (bN.gX 64 b)).1 else(fL.Bj fn (bN.gX 64 b)).1
end Gq
namespace sZ
def E:=mE [(61,vW.aJ),(12,bC.aJ),(62,aCX.aJ),(63,fL.aJ),(18,bS.aJ),(64,iM.aJ),(66,lZ.aJ),(65,aPZ.aJ)] 98 [33] [(3,[0,1,2,6])] [3]
def aF:=bd f19
theorem aX:Nk E aF:=nk
def J3 a b c d e f g:=mU E f19 aF 3 [cA a,cY b,cA c,dR 3 44 [cX d,sc (slice none 0 0),dC e,cX f,sc (slice none 0 0),dC g]]
theorem start a b c:aI E f19 aF [D.s (sc (int i64 a)),D.s (sc (int u64 b)),D.s (sc (int i64 c))]=letI A:=some [D.agg [sc (bool false),sc (slice none 0 0),sc (int i64 0),sc (bool false),sc (slice none 0 0),sc (int i64 0)],D.s (sc (int i64 1))];aO True (aB (!vW.Az a) A (aB (decide (c<1)) A (aB (decide (66000<c)) A (sZ.J3 a b c false 0 false 0)))):=eJ aX
theorem iL a b c d e f g:J3 a b c d e f g=letI F1:=bool false;letI A1:=aN 0 0;letI G1:=M6.dg A1.fst.natAbs;letI Z:=aN 1 0;letI I1:=M6.dg Z.fst.natAbs;letI Y:=slice none 0 0;letI X:=i64.wrap (c+16);letI Q:=int i64 0;letI K:=i64.wrap (c+20);letI G:=bif cN.jW 64 b then bS.Eb (bS.pK b)else((0:Int),(0:Int));letI F:=i64.wrap (c+16)+2;letI C:=bif cC.fB 64 b&&cN.jW 64 b then aN (bC.kF 64 b) (bC.lW 64 b)else((0:Int),(0:Int));aO (((64:Int)=(32:Int)\/(64:Int)=(64:Int))/\0<=b/\b<18446744073709551616) (aC (isNeg C.fst) fun h=>aC (M6.dg C.fst.natAbs) fun i=>aC C.snd fun j=>letI T:=fL.Bj a (dv (h,i,j));aC (bif cC.fB 64 b then bif cN.jW 64 b then(0:Int)else(6:Int)else(2:Int)) fun k=>aB (k !=0) (some [D.agg [sc F1,sc Y,sc Q,sc F1,sc Y,sc Q],D.s (sc (int i64 k))]) (aB ((i.length:Int)==(0:Int)) (aB (a==5) (aO ((-9223372036854775808:Int)<=(1:Int)/\(1:Int)<(9223372036854775808:Int)) (aC (isNeg Z.fst) fun l=>aC I1 fun m=>aC Z.snd fun n=>aC (isNeg Z.fst) fun o=>aC I1 fun p=>aC Z.snd fun q=>some [D.agg [sc (bool l),ints u64 m,sc (int i64 n),sc (bool o),ints u64 p,sc (int i64 q)],D.s (sc Q)])) (aO ((-9223372036854775808:Int)<=(0:Int)/\(0:Int)<(9223372036854775808:Int)) (aC (isNeg A1.fst) fun r=>aC G1 fun s=>aC A1.snd fun t=>aC (isNeg A1.fst) fun u=>aC G1 fun v=>aC A1.snd fun w=>some [D.agg [sc (bool r),ints u64 s,sc (int i64 t),sc (bool u),ints u64 v,sc (int i64 w)],D.s (sc Q)]))) (aO (aR (h,i,j)) (aC T.fst fun x=>letI B1:=aN x 0;letI H1:=M6.dg B1.fst.natAbs;letI H:=aN (i64.wrap ((0:Int)-x)) 0;letI K1:=M6.dg H.fst.natAbs;aC T.snd.fst fun y=>aC T.snd.snd fun z=>aB z (aB (x==2) (some [D.agg [sc F1,sc Y,sc Q,sc F1,sc Y,sc Q],D.s (sc (int i64 6))]) (aB y (aO ((-9223372036854775808:Int)<=i64.wrap ((0:Int)-x)/\i64.wrap ((0:Int)-x)<9223372036854775808) (aC (isNeg H.fst) fun aa=>aC K1 fun ab=>aC H.snd fun ac=>aC (isNeg H.fst) fun ad=>aC K1 fun ae=>aC H.snd fun af=>some [D.agg [sc (bool aa),ints u64 ab,sc (int i64 ac),sc (bool ad),ints u64 ae,sc (int i64 af)],D.s (sc Q)])) (aO ((-9223372036854775808:Int)<=x/\x<9223372036854775808) (aC (isNeg B1.fst) fun ag=>aC H1 fun ah=>aC B1.snd fun ai=>aC (isNeg B1.fst) fun aj=>aC H1 fun ak=>aC B1.snd fun al=>some [D.agg [sc (bool ag),ints u64 ah,sc (int i64 ai),sc (bool aj),ints u64 ak,sc (int i64 al)],D.s (sc Q)])))) (aO (0<=b/\b<18446744073709551616) (aC (bif cN.jW 64 b then bS.uN (bS.pK b)%4 else(0:Int)) fun am=>aC (isNeg G.fst) fun an=>aC (M6.dg G.fst.natAbs) fun ao=>aC G.snd fun ap=>letI A:=iM.Em (dv (an,ao,ap)) X;letI P:=gC A.fst A.snd F;letI O:=gS A.fst A.snd F;aO (aR (an,ao,ap)/\(1<=i64.wrap (c+16)/\i64.wrap (c+16)<=66500)/\iM.aUK (dv (an,ao,ap)) X) (aC (isNeg O.fst.fst) fun aq=>aC (M6.dg O.fst.fst.natAbs) fun ar=>aC O.fst.snd fun au=>aC (isNeg O.snd.fst) fun av=>aC (M6.dg O.snd.fst.natAbs) fun aw=>aC O.snd.snd fun ax=>letI C1:=(aq,ar,au,av,aw,ax);aC (isNeg P.fst.fst) fun ay=>aC (M6.dg P.fst.fst.natAbs) fun az=>aC P.fst.snd fun ba=>aC (isNeg P.snd.fst) fun bb=>aC (M6.dg P.snd.fst.natAbs) fun bc=>aC P.snd.snd fun be=>letI D1:=(ay,az,ba,bb,bc,be);letI N:=VTurned.trn (lZ.eS C1) (lZ.eS D1) am.toNat;letI B:=lZ.aUZ a am.toNat (lZ.eS C1) (lZ.eS D1) X;aO ((fA C1/\fA D1)/\(0<=am/\am<=3)/\(1<=i64.wrap (c+16)/\i64.wrap (c+16)<=70000)/\(a≠4->a≠5->lZ.aSB X N.fst N.snd)) (aC (isNeg B.fst.fst) fun bf=>aC (M6.dg B.fst.fst.natAbs) fun bg=>aC B.fst.snd fun bh=>aC (isNeg B.snd.fst) fun bi=>aC (M6.dg B.snd.fst.natAbs) fun bj=>aC B.snd.snd fun bk=>letI I:=(bf,bg,bh,bi,bj,bk);letI W:=M.shD true (dv (iI I)) K;letI U:=M.shD false (dv (iH I)) K;aO (fA I/\(1<=i64.wrap (c+20)/\i64.wrap (c+20)<=70000)/\yD false (dv (iH I)) K=true/\yD true (dv (iI I)) K=true) (aC (isNeg U.fst) fun bm=>aC (M6.dg U.fst.natAbs) fun bn=>aC U.snd fun bo=>aC (isNeg W.fst) fun bp=>aC (M6.dg W.fst.natAbs) fun bq=>aC W.snd fun br=>some [D.agg [sc (bool bm),ints u64 bn,sc (int i64 bo),sc (bool bp),ints u64 bq,sc (int i64 br)],D.s (sc Q)]))))))))):=cJ aX
def aZR(fn b:Int):Bool:=(bN.gX 64 b).1==0||(fL.Bj fn (bN.gX 64 b)).2.2
def aVK(fn b:Int):Bool:=(bN.gX 64 b).1 !=0&&(fL.Bj fn (bN.gX 64 b)).2.2&&(fL.Bj fn (bN.gX 64 b)).1==2
def aVA(fn b p:Int):(Int×Int)×(Int×Int):=bif aZR fn b then(bif aVK fn b then((0,0),(0,0))else(aN (Gq.aZW fn b) 0,aN (Gq.aZW fn b) 0))else tO fn (bS.uN (bS.pK b)) (bS.Eb (bS.pK b)) p
def sp(fn b p:Int):Prop×List D:=((0<=b/\b<18446744073709551616)/\(fn=4\/fn=5\/fn=6)/\(1<=p/\p<=66000)/\cN.jW 64 b=true,[wG (aVA fn b p).1 (aVA fn b p).2,.s (.sc (.int .i64 (bif aVK fn b then 6 else 0)))])
theorem fold(a b:Int×Int):(isNeg a.1,M6.dg a.1.natAbs,a.2,isNeg b.1,M6.dg b.1.natAbs,b.2)=nM a b:=rfl
theorem aMI{fn b:Int}(h:0<=b)(hf:cN.jW 64 b=true)(h4:fn=4\/fn=5\/fn=6)(hx:aZR fn b=false):bHB (bS.Eb (bS.pK b)):=by
 obtain⟨hp,hm,e0,e1⟩:=bS.aMF h hf;unfold aZR at hx;rw[show bN.gX 64 b=bS.pK b from rfl]at hx;generalize bS.pK b=q at *;have z0:q.1≠0:=fun hz=>by rw[hz]at hx;exact Bool.noConfusion hx
 have hv:(fL.Bj fn q).2.2=false:=by
  cases hc:(fL.Bj fn q).2.2 with
  |false=>rfl
  |true=>rw[hc,Bool.or_true]at hx;exact Bool.noConfusion hx
 have he:q.2<=-2:=by
  rcases Int.lt_or_le (-2) q.2 with kD |hle
  ·exfalso;unfold fL.Bj at hv
   by_cases c0:0<=q.2
   ·rcases h4 with rfl |rfl |rfl <;> simp[c0]at hv
   ·have c1:q.2=-1:=by omega
    rcases h4 with rfl |rfl |rfl <;> simp[c1]at hv
  ·exact hle
 exact aXL ⟨e0,he⟩ (hp.2.2.2 z0)
theorem spec:bAO E f19 aF (pN .i64) (pN .u64) (pN .i64) sp:=by
 rintro fn b p ⟨h,h4,⟨Bd,wZ⟩,hf⟩;have hp:cC.fB 64 b=true:=rfl;have hk:vW.Az fn=true:=by rcases h4 with rfl |rfl |rfl <;> rfl
 have e1:(bif cC.fB 64 b&&cN.jW 64 b then aN (bC.kF 64 b) (bC.lW 64 b)else((0:Int),(0:Int)))=bN.gX 64 b:=by rw[hp,hf];rfl
 have e2:(bif cC.fB 64 b then bif cN.jW 64 b then(0:Int)else 6 else 2)=0:=by rw[hp,hf];rfl
 have s:=(start fn b p).trans (gP trivial);rw[hk,Bool.not_true,bF,aL,aL,iL,gP ⟨.inr rfl,h⟩,e1,e2,Dk,vl,gF rfl]at s;have aHQ:=(bN.My (.inr rfl) h.1 hf).1;have hn:aZR fn b=false->bHB (bS.Eb (bS.pK b)):=aMI h.1 hf h4;have bEP:bN.gX 64 b=bS.pK b:=rfl;unfold sp aVA;dsimp only;unfold aZR aVK Gq.aZW at *;generalize bN.gX 64 b=q at *;have hl:(M6.dg q.1.natAbs).length=0↔q.1=0:=by rw[M6.jE];omega
 by_cases hz:q.1=0
 ·refine⟨_,s.trans ?_,iQ.refl _⟩;rw[cD (by have:=hl.2 hz;omega),if_pos hz,hz]
  by_cases h5:fn=5
  ·rw[cD h5,if_pos h5,gP];rfl
  ·rw[bJ h5,if_neg h5,gP];rfl
 ·rw[bJ (fun h=>hz (hl.1 (by omega))),gP (dP aHQ),dX,vl,vl,vl]at s;rw[show(q.1==0)=false from beq_eq_false_iff_ne.2 hz,show(q.1 !=0)=true by simp[hz],cAU,cBV,if_neg hz];have hn:=fun hx=>hn (by rw[show(q.1==0)=false from beq_eq_false_iff_ne.2 hz,cAU];exact hx)
  have hs:=bN.aFW fn q;cases hv:(fL.Bj fn q).2.2 with
  |true =>
   rw[hv,bT]at s;rw[cond_true,cBV]
   by_cases c2:(fL.Bj fn q).1=2
   ·rw[cD c2]at s;rw[c2];refine⟨_,s,.cons ?_ (iQ.refl _)⟩;show Ag _ (wG (0,0) (0,0));unfold wG;dsimp only;rw[show(0:Int).natAbs=0 from rfl,M6.cT];exact Ag.agg (.cons (Ep.refl _) (.cons (Ep.nil _) (.cons (Ep.refl _) (.cons (Ep.refl _) (.cons (Ep.nil _) (zN.refl _))))))
   ·rw[bJ c2]at s;rw[show((fL.Bj fn q).1==2)=false from beq_eq_false_iff_ne.2 c2];refine⟨_,s.trans ?_,iQ.refl _⟩;cases hg:(fL.Bj fn q).2.1 with
    |false=>rw[bF,if_neg (by simp),gP];rfl
    |true=>rw[bT,if_pos rfl,wrap_i64 (n:=0-(fL.Bj fn q).1),Int.zero_sub,gP];rfl
  |false =>
   have hr:=hn hv;rw[hv,bF,gP h,hf]at s;rw[cond_false,cEC];dsimp only[cond_true]at s;have N:=aKP (k:=bS.uN (bS.pK b)) hr ⟨Bd,wZ⟩ h4;have w1:i64.wrap (p+16)=p+16:=wrap_i64;have w2:i64.wrap (p+20)=p+20:=wrap_i64;have bNQ:p+16+2=p+18:=by omega
   have N2:=N.bx.Al;generalize bS.uN (bS.pK b)=k at *;generalize bS.Eb (bS.pK b)=r at *;rw[vl,Dk,w1,dX,bNQ]at s;have s:=s.trans (gP ⟨dP hr.wL,⟨by omega,by omega⟩,N.ci⟩);rw[show gS (iM.Em r (p+16)).1 (iM.Em r (p+16)).2 (p+18)=tS r p from rfl,show gC (iM.Em r (p+16)).1 (iM.Em r (p+16)).2 (p+18)=tC r p from rfl]at s;have eS:lZ.eS (nM (tS r p).1 (tS r p).2)=tS r p:=by
    show(dv (iH (nM _ _)),dv (iI (nM _ _)))=_;rw[pQ,pS]
   have eC:lZ.eS (nM (tC r p).1 (tC r p).2)=tC r p:=by
    show(dv (iH (nM _ _)),dv (iI (nM _ _)))=_;rw[pQ,pS]
   rw[aH,aH,aH,aH,aH,aH,aH,aH,aH,aH,aH,aH,fold,fold,eS,eC]at s;have s:=s.trans (gP ⟨⟨N.sS,N.sC⟩,⟨cHP _ (by decide),by omega⟩,⟨by omega,by omega⟩,fun _ _=>N.qu⟩);rw[show lZ.aUZ fn (k%4).toNat (tS r p) (tC r p) (p+16)=tE fn k r p from rfl,aH,aH,aH,aH,aH,aH,fold,w2,pQ,pS]at s;have s:=s.trans (gP ⟨N.re,⟨by omega,by omega⟩,N.s1,N.s2⟩);exact⟨_,s,iQ.refl _⟩
def aJ:dK:=orc3 (pN .i64) (pN .u64) (pN .i64) sp
theorem ok:OK 19 aJ:=(fJ E aF (aA vW.ok (aA bC.ok (aA aCX.ok (aA fL.ok (aA bS.ok (aA iM.ok (aA lZ.ok (aA aPZ.ok aD)))))))) func19).bIZ rfl spec
end sZ
end W
namespace M
open Go AI W
structure bRP(s:(Int×Int)×(Int×Int))(V:Rat)(p:Int):Prop where
 f1:bRO s.1 66021 (-p-1200) 1
 f2:bRO s.2 66021 (-p-1200) 1
 lo:R.qz s.1<=V
 hi:V<=R.qz s.2
theorem bRP.sp{s:(Int×Int)×(Int×Int)}{V:Rat}{p:Int}(h:bRP s V p):fA (nM s.1 s.2):=by
 have:=h.lo;have:=h.hi;exact yH h.f1.wL h.f2.wL (lN.2 (by grind))
end M
namespace M
open Go AI W
theorem Mv{n:Int}(hn:0<=n):((p2 n:Int):Rat)=R.pz n:=by
 obtain⟨k,rfl⟩:=cDX hn;rw[Ar,R.lP,cKC]
theorem aHD(p:Int×Int):((bS.uN p:Int):Rat)<=2*R.qz p+1/2/\2*R.qz p+1/2<((bS.uN p:Int):Rat)+1:=by
 obtain⟨m,e⟩:=p;have q:R.qz (m,e)=(m:Rat)*R.pz e:=rfl;rw[q];unfold bS.uN;dsimp only
 by_cases h:0<=e
 ·rw[if_pos h,cKB,Mv (by omega),R.jX];constructor <;> grind
 ·rw[if_neg h];have D0:=Ef (1-e);have a1:=cHO (m*4+p2 (-e)) (p2 (1-e));have a2:=cHP (m*4+p2 (-e)) (show p2 (1-e)≠0 by omega);have a3:=cHQ (m*4+p2 (-e)) D0;generalize (m*4+p2 (-e))/p2 (1-e)=K at *;have b1:p2 (1-e)*K<=m*4+p2 (-e):=by omega
  have b2:m*4+p2 (-e)+1<=p2 (1-e)*K+p2 (1-e):=by omega
  have c1:((p2 (1-e)*K:Int):Rat)<=((m*4+p2 (-e):Int):Rat):=by exact_mod_cast b1
  have c2:((m*4+p2 (-e)+1:Int):Rat)<=((p2 (1-e)*K+p2 (1-e):Int):Rat):=by exact_mod_cast b2
  rw[cKB,cLT,cKB,Mv (by omega),Mv (by omega)]at c1;rw[cLT,cLT,cLT,cKB,cKB,Mv (by omega),Mv (by omega)]at c2;have four:((4:Int):Rat)=4:=by norm_cast
  have one:((1:Int):Rat)=1:=by norm_cast
  have i1:R.pz (e-1)*R.pz (1-e)=1:=by rw[<-R.iU,show e-1+(1-e)=0 by omega,R.eB]
  have i2:R.pz (e-1)*R.pz (-e)=1/2:=by
   rw[<-R.iU,show e-1+-e=0-1 by omega];have:=R.mP 0;rw[R.eB]at this;grind
  have i3:=R.mP e;have z0:=R.dA (e-1);have m1:=R.aE (cEA z0) (show 0<=(m:Rat)*4+R.pz (-e)-R.pz (1-e)*(K:Rat) by grind);have m2:=R.aE (cEA z0) (show 0<=R.pz (1-e)*(K:Rat)+R.pz (1-e)-((m:Rat)*4+R.pz (-e)+1) by grind);have j1:R.pz (e-1)*((m:Rat)*4+R.pz (-e)-R.pz (1-e)*(K:Rat))=2*((m:Rat)*(R.pz (e-1)*2))+R.pz (e-1)*R.pz (-e)-R.pz (e-1)*R.pz (1-e)*(K:Rat):=by grind
  have j2:R.pz (e-1)*(R.pz (1-e)*(K:Rat)+R.pz (1-e)-((m:Rat)*4+R.pz (-e)+1))=R.pz (e-1)*R.pz (1-e)*(K:Rat)+R.pz (e-1)*R.pz (1-e)-2*((m:Rat)*(R.pz (e-1)*2))-R.pz (e-1)*R.pz (-e)-R.pz (e-1):=by grind
  rw[j1,i1,i2,show R.pz (e-1)*2=R.pz e by grind]at m1;rw[j2,i1,i2,show R.pz (e-1)*2=R.pz e by grind]at m2;generalize (m:Rat)*R.pz e=X at *;constructor <;> grind
theorem aRU(p:Int×Int):R.qz (bS.Eb p)=R.qz p-((bS.uN p:Int):Rat)/2:=by
 obtain⟨m,e⟩:=p;have q:R.qz (m,e)=(m:Rat)*R.pz e:=rfl;have hD:bS.Eb (m,e)=aN (bS.Qa (m,e)) (e-1):=rfl;rw[q,hD,nY];unfold bS.Qa;dsimp only;have i3:=R.mP e
 by_cases h:0<=e
 ·have hK:bS.uN (m,e)=m*p2 (e+1):=by unfold bS.uN;rw[if_pos h]
  rw[if_pos h,hK,cKB,Mv (by omega),R.jX,show((0:Int):Rat)=0 by norm_cast];grind
 ·rw[if_neg h];generalize bS.uN (m,e)=K;have i2:R.pz (e-1)*R.pz (-e)=1/2:=by
   rw[<-R.iU,show e-1+-e=0-1 by omega];have:=R.mP 0;rw[R.eB]at this;grind
  rw[cMU,cKB,cKB,Mv (by omega),show((2:Int):Rat)=2 by norm_cast];have j:((m:Rat)*2-(K:Rat)*R.pz (-e))*R.pz (e-1)=(m:Rat)*(R.pz (e-1)*2)-(K:Rat)*(R.pz (e-1)*R.pz (-e)):=by grind
  rw[j,i2,show R.pz (e-1)*2=R.pz e by grind];grind
end M
namespace M
open Go AI W
def vT(fn b:Int):Rat:=tv fn (bS.uN (bS.pK b)) (R.sn (R.qz (bS.Eb (bS.pK b))*R.pi)) (R.cs (R.qz (bS.Eb (bS.pK b))*R.pi))
end M
namespace AI
open Go Go.RowKit
structure aIU(α:Type) where
 put:α->Value
 get:Value->Option α
 eq:∀{v x},get v=some x->v=put x
def vN(k:IntKind):aIU Int where
 put n:=.int k n
 get
  | .int k' n=>if _h:k=k' then some n else none
  |_=>none
 eq:=by
  intro v x h;split at h
  ·split at h
   ·rename_i hk;subst hk;cases h;rfl
   ·cases h
  ·cases h
def vF:aIU Nat where
 put g:=.func (.func g) #[] #[]
 get
  | .func (.func g) ⟨[]⟩ ⟨[]⟩=>some g
  |_=>none
 eq:=by
  intro v x h;split at h
  ·cases h;rfl
  ·cases h
def vC(id:FuncId):aIU Unit where
 put _:=.func (.func id) #[] #[]
 get
  | .func (.func g) ⟨[]⟩ ⟨[]⟩=>if g=id then some ()else none
  |_=>none
 eq:=by
  intro v x h;split at h
  ·split at h
   ·rename_i hg;subst hg;rfl
   ·cases h
  ·cases h
structure aQF(α:Type) where
 put:α->List Value
 get:List Value->Option α
 eq:∀{v x},get v=some x->v=put x
def l1{α:Type}(p:aIU α):aQF α where
 put a:=[p.put a]
 get
  | [v]=>p.get v
  |_=>none
 eq:=by
  intro v x h;split at h
  ·rw[p.eq h]
  ·cases h
def lc{α β:Type}(p:aIU α)(q:aQF β):aQF (α×β) where
 put a:=p.put a.1 :: q.put a.2
 get
  |v :: r=>match p.get v,q.get r with
   |some a,some b=>some (a,b)
   |_,_=>none
  |_=>none
 eq:=by
  intro v x h;split at h
  ·split at h
   ·rename_i h1 h2;cases h;rw[p.eq h1,q.eq h2]
   ·cases h
  ·cases h
def pPt{α:Type}(p:aIU α):lB α where
 put a:=.s (.pt (p.put a))
 get
  | .s (.pt v)=>p.get v
  |_=>none
 le:=by
  intro d x h;split at h
  ·rw[p.eq h];exact Dw.refl _
  ·cases h
def pClo{α:Type}(k:FuncId)(p:aQF α):lB α where
 put a:=.s (.Vh k (p.put a))
 get
  | .s (.Vh k' xs)=>if k=k' then p.get xs else none
  |_=>none
 le:=by
  intro d x h;split at h
  ·split at h
   ·rename_i hk;subst hk;rw[p.eq h];exact Dw.refl _
   ·cases h
  ·cases h
def bCY{α:Type}(k:FuncId)(p:aQF α):SPar α:=bHL (pClo k p) (fun a=>.Vh k (p.put a)) fun _=>rfl
theorem aSI{P:Program}{G:Nat->Option (IntKind×List Int)}{f:FuncId}{α β γ δ:Type}{p:lB α}{q:lB β}{r:lB γ}{s:lB δ}{sp:α->β->γ->δ->Prop×List D}(hb:pE P f)
  (h:∀a b c d,(sp a b c d).1->Contract P G f [p.put a,q.put b,r.put c,s.put d] (sp a b c d).2):lO P G f (orc4 p q r s sp):=by
 intro ds g rs ho hg;unfold orc4 at ho;split at ho
 ·split at ho
  ·rename_i h1 h2 h3 h4;have e:=Option.some.inj ho;have c:=(h _ _ _ _ (by rw[e];exact hg)).bON (p.le h1) (q.le h2) (r.le h3) (s.le h4);rw[e]at c;exact⟨c,hb⟩
  ·cases ho
 ·cases ho
end AI
namespace W
open Go AI M
namespace fF
def E:=mE [(31,eZ.aJ)] 22 [] [(4,[0,4,6,7])] [4]
def aF:=bd f73
theorem aX:Nk E aF:=nk
def J4 a b c d:=mU E f73 aF 4 [cA a,dR 1 42 [dC b],dR 2 129 [dC c,sc Value.nilFunc],dR 3 22 [aAK d]]
theorem start a b c:aI E f73 aF [D.s (sc (int i64 a)),D.s (sc (int i64 b)),D.s (sc (int u64 c))]=aB (a==32) (aO (0<=c/\c<18446744073709551616) (fF.J4 a b 0 (eZ.Lr c))) (fF.J4 a b 0 c):=eJ aX
theorem Jt a b c d:J4 a b c d=aB (decide (4<=b)) (some [D.agg [sc (int i64 a),S.Vh 126 [Value.func (Fn.func 19) { toList:=[] } { toList:=[] },int i64 b,int u64 d]]]) (some [D.agg [sc (int i64 a),S.Vh 126 [Value.func (Fn.func 125) { toList:=[] } { toList:=[] },int i64 b,int u64 d]]]):=cJ aX
def xV(f b:Int):Int:=if f=32 then eZ.Lr b else b
def gV(fn:Int):Nat:=if 4<=fn then 19 else 125
def sp(f fn b:Int):Prop×List D:=(0<=b/\b<18446744073709551616,[.agg [.sc (.int .i64 f),.Vh 126 [.func (.func (gV fn)) #[] #[],.int .i64 fn,.int .u64 (xV f b)]]])
theorem spec:pO E f73 aF (pN .i64) (pN .i64) (pN .u64) sp:=by
 intro f fn b h;have hb:0<=b/\b<18446744073709551616:=h;have j:∀x1:Int,J4 f fn 0 x1=some [.agg [.sc (.int .i64 f),.Vh 126 [.func (.func (gV fn)) #[] #[],.int .i64 fn,.int .u64 x1]]]:=by
  intro x1;rw[Jt];unfold gV
  by_cases h4:4<=fn
  ·rw[aQ h4,if_pos h4]
  ·rw[aL h4,if_neg h4]
 refine(start f fn b).trans ?_;unfold sp xV;dsimp only
 by_cases h1:f=32
 ·rw[cD h1,if_pos h1,gP hb,j]
 ·rw[bJ h1,if_neg h1,j]
def aJ:dK:=orc3 (pN .i64) (pN .i64) (pN .u64) sp
theorem ok:OK 73 aJ:=(fJ E aF (aA eZ.ok aD) func73).zR rfl spec
end fF
namespace De
def E:=mE [(125,kY.aJ)] 14 [11] [] []
def aF:=bd f126
theorem aX:Nk E aF:=nk
theorem start p fn x:aI E f126 aF [D.s (sc (int i64 p)),D.s (S.pt (Value.func (Fn.func (125:FuncId)) #[] #[])),D.s (S.pt (int i64 fn)),D.s (S.pt (int u64 x))]=letI A:=kY.aTX fn x p;aO (0<=x/\x<18446744073709551616) (aC (isNeg A.fst.fst) fun a=>aC (M6.dg A.fst.fst.natAbs) fun b=>aC A.fst.snd fun c=>aC (isNeg A.snd.fst) fun d=>aC (M6.dg A.snd.fst.natAbs) fun e=>aC A.snd.snd fun f=>some [D.agg [sc (bool a),ints u64 b,sc (int i64 c),sc (bool d),ints u64 e,sc (int i64 f)],D.s (sc (int i64 (fM.Tb fn x p)))]):=eJ aX
def sp(p:Int)(_:Unit)(fn x:Int):Prop×List D:=(0<=x/\x<18446744073709551616,[wG (kY.aTX fn x p).1 (kY.aTX fn x p).2,.s (.sc (.int .i64 (fM.Tb fn x p)))])
theorem spec:Pd E f126 aF (pN .i64) (pPt (vC 125)) (pPt (vN .i64)) (pPt (vN .u64)) sp:=fun p u fn x h =>
 (start p fn x).trans (gP h)
def aJ:dK:=orc4 (pN .i64) (pPt (vC 125)) (pPt (vN .i64)) (pPt (vN .u64)) sp
theorem ok:OK 126 aJ:=(fJ E aF (aA kY.ok aD) func126).aME rfl spec
end De
namespace Dd
def E:=mE [(19,sZ.aJ)] 14 [11] [] []
def aF:=bd f126
theorem aX:Nk E aF:=nk
theorem start p fn x:aI E f126 aF [D.s (sc (int i64 p)),D.s (S.pt (Value.func (Fn.func (19:FuncId)) #[] #[])),D.s (S.pt (int i64 fn)),D.s (S.pt (int u64 x))]=letI A:=sZ.aVA fn x p;aO ((0<=x/\x<18446744073709551616)/\(fn=4\/fn=5\/fn=6)/\(1<=p/\p<=66000)/\cN.jW 64 x=true) (aC (isNeg A.fst.fst) fun a=>aC (M6.dg A.fst.fst.natAbs) fun b=>aC A.fst.snd fun c=>aC (isNeg A.snd.fst) fun d=>aC (M6.dg A.snd.fst.natAbs) fun e=>aC A.snd.snd fun f=>aC (bif sZ.aVK fn x then(6:Int)else(0:Int)) fun g=>some [D.agg [sc (bool a),ints u64 b,sc (int i64 c),sc (bool d),ints u64 e,sc (int i64 f)],D.s (sc (int i64 g))]):=eJ aX
def sp(p:Int)(_:Unit)(fn x:Int):Prop×List D:=((0<=x/\x<18446744073709551616)/\(fn=4\/fn=5\/fn=6)/\(1<=p/\p<=66000)/\cN.jW 64 x=true,[wG (sZ.aVA fn x p).1 (sZ.aVA fn x p).2,.s (.sc (.int .i64 (bif sZ.aVK fn x then 6 else 0)))])
theorem spec:Pd E f126 aF (pN .i64) (pPt (vC 19)) (pPt (vN .i64)) (pPt (vN .u64)) sp:=fun p u fn x h =>
 (start p fn x).trans (gP h)
def aJ:dK:=orc4 (pN .i64) (pPt (vC 19)) (pPt (vN .i64)) (pPt (vN .u64)) sp
theorem ok:OK 126 aJ:=(fJ E aF (aA sZ.ok aD) func126).aME rfl spec
end Dd
namespace jZ
def enc(g:Nat)(fn x p:Int):(Int×Int)×(Int×Int):=if g=125 then kY.aTX fn x p else sZ.aVA fn x p
def pre(g:Nat)(fn x p:Int):Prop:=(g=125/\(0<=x/\x<18446744073709551616)/\fM.Tb fn x p=0)\/(g=19/\((0<=x/\x<18446744073709551616)/\(fn=4\/fn=5\/fn=6)/\(1<=p/\p<=66000)/\cN.jW 64 x=true)/\sZ.aVK fn x=false)
def sp(p:Int)(g:Nat)(fn x:Int):Prop×List D:=(pre g fn x p,[wG (enc g fn x p).1 (enc g fn x p).2,.s (.sc (.int .i64 0))])
def aJ:dK:=orc4 (pN .i64) (pPt vF) (pPt (vN .i64)) (pPt (vN .u64)) sp
theorem ok:OK 126 aJ:=aSI (pM func126 rfl rfl) fun p g fn x h=>by
 rcases h with ⟨rfl,h,h0⟩ |⟨rfl,h,h0⟩
 ·have c:=(De.ok _ _ _ (show De.aJ [(pN .i64).put p,(pPt (vC 125)).put (),(pPt (vN .i64)).put fn,(pPt (vN .u64)).put x]=some (De.sp p () fn x)from rfl) h).1;have e:(De.sp p () fn x).2=(sp p 125 fn x).2:=by unfold De.sp sp enc;rw[h0];rfl
  rw[<-e];exact c
 ·have c:=(Dd.ok _ _ _ (show Dd.aJ [(pN .i64).put p,(pPt (vC 19)).put (),(pPt (vN .i64)).put fn,(pPt (vN .u64)).put x]=some (Dd.sp p () fn x)from rfl) h).1;have e:(Dd.sp p () fn x).2=(sp p 19 fn x).2:=by unfold Dd.sp sp enc;rw[h0];rfl
  rw[<-e];exact c
end jZ
namespace lG
def E:=mE [(84,lU.aJ),(39,bN.aJ),(82,gH.aJ)] 56 [26,37,51] [] []
def aF:=bd f72
theorem aX:Nk E aF:=nk
theorem start a b c d:aI E f72 aF [D.s (sc (int i64 a)),D.s (sc (int i64 b)),D.s (sc (int u64 c)),D.s (sc (int i64 d))]=letI F:=bN.vR a b c;letI C:=aG.fD a;letI B:=sc (bool true);letI A:=aO True (some [D.s (sc (int u64 C.snd.snd.snd)),D.s B]);aB (d==4) A (aB (d==3) A (aB (decide (4<=b)) (aO (0<=c/\c<18446744073709551616) (some [D.s (sc (int u64 F.fst)),D.s (sc (bool F.snd.fst))])) (aB (d !=0) (some [D.s (sc (int u64 0)),D.s (sc (bool false))]) (aB (b==2) (aO ((a=32\/a=64)/\((0:Int)<=(1:Int)/\(1:Int)<(18446744073709551616:Int))/\(-4000:Int)<=(0:Int)/\(0:Int)<=(2900:Int)) (some [D.s (sc (int u64 (gH.Ju C false (gH.qU C 1 0)))),D.s B])) (some [D.s (sc (int u64 c)),D.s B]))))):=eJ aX
def Md(f fn b c:Int):Int×Bool:=if c=4 then((aG.fD f).2.2.2,true)else if c=3 then((aG.fD f).2.2.2,true)else if 4<=fn then((bN.vR f fn b).1,(bN.vR f fn b).2.1)else if c=0 then(if fn=2 then(gH.Ju (aG.fD f) false (gH.qU (aG.fD f) 1 0),true)else(b,true))else(0,false)
def sp(f fn b c:Int):Prop×List D:=((f=32\/f=64)/\0<=b/\b<18446744073709551616,[.s (.sc (.int .u64 (Md f fn b c).1)),.s (.sc (.bool (Md f fn b c).2))])
theorem spec:Pd E f72 aF (pN .i64) (pN .i64) (pN .u64) (pN .i64) sp:=by
 rintro f fn b c ⟨hf,hb⟩;refine(start f fn b c).trans ?_;unfold sp Md;dsimp only
 by_cases h4:c=4
 ·rw[cD h4,if_pos h4,gP trivial]
 rw[bJ h4,if_neg h4]
 by_cases h3:c=3
 ·rw[cD h3,if_pos h3,gP trivial]
 rw[bJ h3,if_neg h3]
 by_cases h5:4<=fn
 ·rw[aQ h5,if_pos h5,gP hb]
 rw[aL h5,if_neg h5]
 by_cases h0:c=0
 ·rw[gF h0,if_pos h0]
  by_cases h2:fn=2
  ·rw[cD h2,if_pos h2,gP ⟨hf,by omega,by omega,by omega⟩]
  ·rw[bJ h2,if_neg h2]
 ·rw[nZ h0,if_neg h0]
def aJ:dK:=orc4 (pN .i64) (pN .i64) (pN .u64) (pN .i64) sp
theorem ok:OK 72 aJ:=(fJ E aF (aA lU.ok (aA bN.ok (aA gH.ok aD))) func72).aME rfl spec
end lG
namespace kC
def E:=mE [(78,aG.aJ),(135,bV.aJ)] 36 [] [(6,[1,4,8])] [6]
def aF:=bd f77
theorem aX:Nk E aF:=nk
def J6 a b c d e f g h i:=mU E f77 aF 6 [cY a,dR 1 84 [dC b,dC c,dC d,aAK e],dR 2 84 [dC f,dC g,dC h,aAK i]]
theorem start a b:aI E f77 aF [D.s (sc (int i64 a)),D.s (sc (int u64 b))]=letI A:=aG.fD a;letI G:=int i64 A.snd.fst;letI F:=int u64 A.snd.snd.snd;letI C:=int i64 A.snd.snd.fst;letI B:=kC.J6 b 0 0 0 0 A.fst A.snd.fst A.snd.snd.fst A.snd.snd.snd;aO True (aB (A.fst==0&&(A.snd.fst==0&&(A.snd.snd.fst==0&&(A.snd.snd.snd==0&&true)))) (some [D.agg [sc (int i64 A.fst),sc G,sc C,sc F],D.s (sc (bool false)),D.s (sc (int u64 0)),D.s (sc (int i64 1))]) (aB (decide (A.fst<64)) (if A.fst<0 then none else aB (b/(↑((2:Nat)^min A.fst.toNat 64):Int) !=(0:Int)) (some [D.agg [sc (int i64 A.fst),sc G,sc C,sc F],D.s (sc (bool false)),D.s (sc (int u64 0)),D.s (sc (int i64 2))]) B) B)):=eJ aX
def Ac(f b:Int):Int:=bif lU.Ab f then(bif cC.fB f b then 0 else 2)else 1
def aVO(f b:Int):Bool:=lU.Ab f&&cC.fB f b
def sp(f b:Int):Prop×List D:=(0<=b/\b<18446744073709551616,[aG.bCW (aG.fD f),.s (.sc (.bool (aVO f b&&decide (bV.cE (aG.fD f)<=b)))),.s (.sc (.int .u64 (bif aVO f b then b%bV.cE (aG.fD f)else 0))),.s (.sc (.int .i64 (Ac f b)))])
theorem spec:hI E f77 aF (pN .i64) (pN .u64) sp:=by
 intro f b h;unfold sp aVO Ac
 by_cases hf:f=32\/f=64
 ·rw[show lU.Ab f=true from decide_eq_true hf,cBV,cond_true];exact cC.spec f b ⟨hf,h⟩
 ·rw[show lU.Ab f=false from decide_eq_false hf,cEC,cond_false];refine(start f b).trans ((gP trivial).trans ?_);have e:aG.fD f=(0,0,0,0):=by unfold aG.fD;rw[if_neg (fun h=>hf (.inl h)),if_neg (fun h=>hf (.inr h))]
  rw[e];rfl
def aJ:dK:=orc2 (pN .i64) (pN .u64) sp
theorem ok:OK 77 aJ:=(fJ E aF (aA aG.ok (aA bV.ok aD)) func77).nF rfl spec
end kC
namespace dM
def E:=mE [(77,kC.aJ),(79,fO.aJ)] 24 [13,23] [] []
def aF:=bd f83
theorem aX:Nk E aF:=nk
theorem start a b:aI E f83 aF [D.s (sc (int i64 a)),D.s (sc (int u64 b))]=letI A:=aG.fD a;letI B:=(A.fst,A.snd.fst,A.snd.snd.fst,A.snd.snd.snd);aO (0<=b/\b<18446744073709551616) (aB (kC.Ac a b !=0) (some [D.s (sc (int i64 0)),D.s (sc (int i64 (kC.Ac a b)))]) (aO (aG.vY B) (some [D.s (sc (int i64 (fO.gE B (bif kC.aVO a b then b%bV.cE A else(0:Int))))),D.s (sc (int i64 0))]))):=eJ aX
def lT(f b:Int):Int:=bif kC.aVO f b then fO.gE (aG.fD f) (b%bV.cE (aG.fD f))else 0
def sp(f b:Int):Prop×List D:=(0<=b/\b<18446744073709551616,[.s (.sc (.int .i64 (lT f b))),.s (.sc (.int .i64 (kC.Ac f b)))])
theorem spec:hI E f83 aF (pN .i64) (pN .u64) sp:=by
 intro f b h;refine(start f b).trans ((gP h).trans ?_);unfold sp lT kC.Ac kC.aVO
 by_cases hf:f=32\/f=64
 ·rw[show lU.Ab f=true from decide_eq_true hf,cBV,cond_true];have ht:=cN.Cl hf;cases hp:cC.fB f b with
  |false=>rfl
  |true =>
   try dsimp only[cond_true]
   rw[gF rfl,gP ht]
 ·rw[show lU.Ab f=false from decide_eq_false hf];rfl
def aJ:dK:=orc2 (pN .i64) (pN .u64) sp
theorem ok:OK 83 aJ:=(fJ E aF (aA kC.ok (aA fO.ok aD)) func83).nF rfl spec
end dM
namespace fT
def E:=mE [(83,dM.aJ)] 24 [13] [] []
def aF:=bd f71
theorem aX:Nk E aF:=nk
theorem start a b c:aI E f71 aF [D.s (sc (int i64 a)),D.s (sc (int i64 b)),D.s (sc (int u64 c))]=letI B:=sc (int i64 (dM.lT a c));letI A:=some [D.s B,D.s (sc (int i64 1))];aO (0<=c/\c<18446744073709551616) (aB (decide (b<1)) A (aB (decide (6<b)) A (some [D.s B,D.s (sc (int i64 (kC.Ac a c)))]))):=eJ aX
def oW(f fn b:Int):Int:=if fn<1 then 1 else if 6<fn then 1 else kC.Ac f b
def sp(f fn b:Int):Prop×List D:=(0<=b/\b<18446744073709551616,[.s (.sc (.int .i64 (dM.lT f b))),.s (.sc (.int .i64 (oW f fn b)))])
theorem spec:pO E f71 aF (pN .i64) (pN .i64) (pN .u64) sp:=by
 intro f fn b h;refine(start f fn b).trans ((gP h).trans ?_);unfold sp oW;dsimp only
 by_cases h1:fn<1
 ·rw[aQ h1,if_pos h1]
 ·rw[aL h1,if_neg h1]
  by_cases h2:6<fn
  ·rw[aQ h2,if_pos h2]
  ·rw[aL h2,if_neg h2]
def aJ:dK:=orc3 (pN .i64) (pN .i64) (pN .u64) sp
theorem ok:OK 71 aJ:=(fJ E aF (aA dM.ok aD) func71).zR rfl spec
end fT
end W
namespace W.Ziv
open Go AI M W W.Qy
structure Ns(f fn b:Int):Prop where
 fin:Fin f b
 f1:1<=fn
 f6:fn<=6
 ex:4<=fn->(fL.Bj fn (bN.gX f b)).2.2=false
theorem wT{f b:Int}(hf:f=32\/f=64)(hb:0<=b/\b<18446744073709551616)(hp:cC.fB f b=true):b<2*sg f/\dM.lT f b=(if b%sg f=0 then 0 else if b%sg f<cK.kV (aG.fD f)then 1 else if b%sg f<iN.jV (uW.vB f)then 2 else if b%sg f=iN.jV (uW.vB f)then 3 else 4):=by
 obtain⟨e1,e2⟩:=Fh hf;constructor
 ·unfold cC.fB at hp;rcases hf with rfl |rfl
  ·rw[Bool.or_eq_true,decide_eq_true_eq,decide_eq_true_eq]at hp;have:sg 32=2147483648:=rfl;omega
  ·have:sg 64=9223372036854775808:=rfl;omega
 ·unfold dM.lT kC.aVO;rw[show lU.Ab f=true from decide_eq_true hf,hp,cBV,cond_true,e1];unfold fO.gE;rw[e2]
theorem yT{f fn b:Int}(h:fT.oW f fn b=0):(f=32\/f=64)/\cC.fB f b=true/\1<=fn/\fn<=6:=by
 unfold fT.oW at h;split at h
 ·omega
 ·split at h
  ·omega
  ·unfold kC.Ac lU.Ab at h
   by_cases hf:f=32\/f=64
   ·rw[decide_eq_true hf,cond_true]at h;cases hp:cC.fB f b with
    |true=>exact⟨hf,rfl,by omega,by omega⟩
    |false=>rw[hp]at h;cases h
   ·rw[decide_eq_false hf]at h;cases h
theorem Rm{f fn b:Int}(hb:0<=b/\b<18446744073709551616)(he:fT.oW f fn b=0)(hs:(lG.Md f fn b (dM.lT f b)).2=false):Ns f fn b:=by
 obtain⟨hf,hp,f1,f6⟩:=yT he;obtain⟨Fx,hc⟩:=wT hf hb hp;obtain⟨e1,e2⟩:=Fh hf;have h0:=cHP b (show sg f≠0 by unfold sg;split <;> omega);have hi:=(aKA.aMS hf).2.1;rw[e2]at hi;unfold lG.Md at hs;generalize dM.lT f b=cl at hc hs
 by_cases c0:b%sg f=0
 ·rw[if_pos c0]at hc;rw[aP,aP]at hs
  by_cases c4:4<=fn
  ·rw[if_pos c4,aKA.Uy hf ⟨c4,f6⟩ hp (by rw[e1];exact c0)]at hs;cases hs
  ·rw[if_neg c4,if_pos hc]at hs;split at hs <;> cases hs
 ·rw[if_neg c0]at hc;have fin:b%sg f<iN.jV (uW.vB f):=by
   apply Classical.byContradiction;intro hn;rw[aP,if_neg hn]at hc
   by_cases c3:b%sg f=iN.jV (uW.vB f)
   ·rw[if_pos c3]at hc;rw[aP,if_pos hc]at hs;cases hs
   ·rw[if_neg c3]at hc;rw[if_pos hc]at hs;cases hs
  refine⟨⟨hf,⟨hb.1,Fx⟩,by omega,fin⟩,f1,f6,fun c4=>?_⟩;have ex:=aKA.aOG hf ⟨c4,f6⟩ hp (by rw[e1];omega) (by rw[e1,e2];exact fin);have bMJ:cl=1\/cl=2:=by
   split at hc
   ·exact .inl hc
   ·first |exact .inr hc | (rw[if_pos fin]at hc;exact .inr hc)
  rw[aP,aP,if_pos c4,ex]at hs;cases hx:(fL.Bj fn (bN.gX f b)).2.2 with
  |false=>rfl
  |true=>rw[hx,if_pos rfl]at hs;cases hs
theorem aDH{f b:Int}(h:Fin f b):Fin 64 (fF.xV f b)/\bN.gX 64 (fF.xV f b)=bN.gX f b:=by
 obtain⟨hf,hb,h1,h2⟩:=h;unfold fF.xV;rcases hf with rfl |rfl
 ·have Fi:sg 32=2147483648:=rfl;have i32:iN.jV (uW.vB 32)=2139095040:=rfl;rw[Fi]at hb h1 h2;rw[i32]at h2;obtain⟨_,w1,w2,w3,w4,w5⟩:=aKA.aRB hb.1 (by omega) h1 h2;rw[if_pos rfl];exact⟨⟨.inr rfl,⟨w1,w2⟩,w3,w4⟩,w5⟩
 ·rw[if_neg (by decide)];exact⟨⟨.inr rfl,hb,h1,h2⟩,rfl⟩
def vZ(fn x:Int):Rat:=if 4<=fn then vT fn x else vx fn x
structure aJF(s:(Int×Int)×(Int×Int))(V:Rat)(p:Int):Prop where
 pl:kE s.1
 ph:kE s.2
 lo:R.qz s.1<=V
 hi:V<=R.qz s.2
 wd:R.qz s.2-R.qz s.1<=R.pz (-p-1)*R.ab V
 v0:V≠0
theorem aJF.Al{s:(Int×Int)×(Int×Int)}{V:Rat}{p:Int}(h:aJF s V p):fA (nM s.1 s.2):=yH h.pl h.ph (lN.2 (by have:=h.lo;have:=h.hi;grind))
theorem aSC{p:Int}(hp:1<=p):R.pz (-p-1)<=1/4:=by
 have h1:=R.cF (show -p-1<=-2 by omega);have h2:R.pz (-2)*4=1:=by
  have:=R.fU 0 (n:=2) (c:=4) (by norm_cast);rwa [R.eB]at this
 grind
theorem aJF.aVE{s:(Int×Int)×(Int×Int)}{V:Rat}{p:Int}(h:aJF s V p)(hp:1<=p):(0<V->0<R.qz s.1)/\(V<0->R.qz s.2<0):=by
 obtain⟨_,_,lo,hi,wd,v0⟩:=h;have q:=aSC hp;have a0:=R.aM V;have m:=R.aE a0 (show 0<=1/4-R.pz (-p-1) by grind);have e:R.ab V*(1/4-R.pz (-p-1))=R.ab V/4-R.pz (-p-1)*R.ab V:=by grind
 rw[e]at m;generalize R.pz (-p-1)*R.ab V=W at *;constructor
 ·intro hV;rw[R.bP (cEA hV)]at m;grind
 ·intro hV;have:R.ab V=-V:=by unfold R.ab;rw[if_neg (by grind)]
  rw[this]at m;grind
theorem wS{f fn b p:Int}(h:Ns f fn b)(hp:1<=p/\p<=66000):jZ.pre (fF.gV fn) fn (fF.xV f b) p/\aJF (jZ.enc (fF.gV fn) fn (fF.xV f b) p) (vZ fn (fF.xV f b)) p:=by
 obtain⟨⟨_,hb,h1,h2⟩,bEP⟩:=aDH h.fin;have ex:=h.ex;rw[<-bEP]at ex;generalize fF.xV f b=x at *;have hx:0<=x/\x<18446744073709551616:=hb;have h1:0<x%9223372036854775808:=h1;have h2:x%9223372036854775808<9218868437227405312:=h2;have f1:=h.f1;have f6:=h.f6;unfold jZ.pre jZ.enc fF.gV vZ
 by_cases c4:4<=fn
 ·rw[if_pos c4,if_pos c4];have ex:=ex c4;have h4:fn=4\/fn=5\/fn=6:=by omega
  have hf:cN.jW 64 x=true:=decide_eq_true h2;have hodd:=aKA.aFA (f:=64) (.inr rfl) hx.1 h1;have xB:sZ.aZR fn x=false:=by
   unfold sZ.aZR;rw[ex,beq_eq_false_iff_ne.2 (show(bN.gX 64 x).1≠0 by omega)];rfl
  have pB:sZ.aVK fn x=false:=by unfold sZ.aVK;rw[ex,Bool.and_false,cEC]
  have N:=aKP (k:=bS.uN (bS.pK x)) (sZ.aMI hx.1 hf h4 xB) hp h4;rw[if_neg (by decide)];refine⟨.inr ⟨rfl,⟨hx,h4,hp,hf⟩,pB⟩,?_⟩;unfold sZ.aVA;rw[xB,cond_false];have m0:=N.bx.m0;have lo:=N.bx.lo;have hi:=N.bx.hi;exact⟨N.bx.pl,N.bx.ph,by unfold vT;grind,by unfold vT;grind,N.bx.wd,N.v0⟩
 ·rw[if_neg c4,if_neg c4,if_pos rfl];have c:fM.Tb fn x p=0:=by rw[aAI,aP,aP,aP,aP,if_pos h2]
  obtain⟨hr,hf,_,z⟩:=aEK hx c (by omega);refine⟨.inl ⟨rfl,hx,c⟩,?_⟩;rw[aON c z];have N:=aZV (p:=p) hr hf hp;have m0:=N.bx.m0;have lo:=N.bx.lo;have hi:=N.bx.hi;have wd:=N.bx.wd;have pm:=R.cF (show -p-8<=-p-1 by omega);have mm:=R.aE (R.aM (R.fv fn (R.qz (bA.qW x)) (kx x))) (show 0<=R.pz (-p-1)-R.pz (-p-8) by grind);exact⟨N.bx.pl,N.bx.ph,by unfold vx;grind,by unfold vx;grind,by unfold vx;grind,N.v0⟩
end W.Ziv
namespace AI
open Go Go.RowKit
abbrev O0:Nat->Prop:=fun _=>False
theorem Nh{w w':World}(h:Below w.heap.size w w'):iJ O0 w O0 w':=⟨h.size,fun b hb _=>⟨h.block b hb,id⟩⟩
theorem mQ{G:Nat->Option (IntKind×List Int)}{w w':World}(h:GlobOk G O0 w)(hb:Below w.heap.size w w'):GlobOk G O0 w':=fun g k ns e=>by
 obtain⟨h1,_,h3⟩:=h g k ns e;exact⟨Nat.lt_of_lt_of_le h1 hb.size,id,h3.later (Nh hb)⟩
theorem El{Y:Nat->Prop}{w:World}:iJ Y w O0 w:=⟨bYT _,fun _ _ _=>⟨rfl,id⟩⟩
theorem aIB{G:Nat->Option (IntKind×List Int)}{Y:Nat->Prop}{w:World}(h:GlobOk G Y w):GlobOk G O0 w:=fun g k ns e=>by
 obtain⟨h1,_,h3⟩:=h g k ns e;exact⟨h1,id,h3.later El⟩
theorem Gh{P:Program}{G:Nat->Option (IntKind×List Int)}{f:FuncId}{o:dK}(h:lO P G f o){ds rs:List D}{g:Prop}(e:o ds=some (g,rs))(hg:g){w:World}(hG:GlobOk G O0 w){vs:List Value}(hl:ds.length=vs.length)
  (hd:∀(i:Nat) (d:D) (v:Value),ds[i]?=some d->vs[i]?=some v->mI O0 w d v) :
  Calls P f vs.toArray w fun e w'=>∃tF,e=.returned (resV tF)/\Below w.heap.size w w'/\Wa O0 w.heap.size w' rs tF :=
 (h ds g rs e hg).1 O0 w vs (fun _ hb=>hb.elim) hG hl hd
def Kr(v:Value):D:=.s (.sc v)
theorem xT{P:Program}{G:Nat->Option (IntKind×List Int)}{f:FuncId}{o:dK}(h:lO P G f o){xs ys:List Value}{g:Prop}(e:o (xs.map Kr)=some (g,ys.map Kr))(hg:g){w:World}(hG:GlobOk G O0 w)(hx:∀x∈xs,x.oneCell'=true) :
  Calls P f xs.toArray w fun e w'=>e=.returned (resV ys)/\Below w.heap.size w w':=by
 refine(Gh h e hg hG (vs:=xs) (by simp) (fun i d v hd hv=>?_)).mono ?_
 ·simp only[List.getElem?_map,Option.map_eq_some_iff]at hd;obtain⟨x,aVX,rfl⟩:=hd;rw[hv]at aVX;cases aVX;exact⟨rfl,hx v (List.mem_of_getElem? hv)⟩
 ·rintro e w' ⟨tF,rfl,hb,g,aHW,-,aBT⟩;refine⟨?_,hb⟩;congr 2;apply cCS;intro i;have aHW:ys.length=tF.length:=by simpa using aHW
  cases hi:tF[i]? with
  |none =>
   have:tF.length<=i:=List.getElem?_eq_none_iff.1 hi;exact(List.getElem?_eq_none_iff.2 (by omega)).symm
  |some v =>
   have kD:i<ys.length:=by rw[aHW];exact(List.getElem?_eq_some_iff.1 hi).1
   have hy:ys[i]?=some ys[i]:=bZK kD;have:=aBT i (Kr ys[i]) v (by simp[hy]) hi;rw[hy,this.1]
structure Pc(w:World)(n1:Bool)(l1:List Int)(e1:Int)(n2:Bool)(l2:List Int)(e2:Int)(s1 s2:Value):Prop where
 a:oT O0 w (.ints .u64 l1) s1
 b:oT O0 w (.ints .u64 l2) s2
theorem Pc.later{w w':World}{n1 n2:Bool}{l1 l2:List Int}{e1 e2:Int}{s1 s2:Value}(h:Pc w n1 l1 e1 n2 l2 e2 s1 s2)(hb:Below w.heap.size w w'):Pc w' n1 l1 e1 n2 l2 e2 s1 s2 :=
 ⟨h.a.later (Nh hb),h.b.later (Nh hb)⟩
theorem Pc.rep{w:World}{n1 n2:Bool}{l1 l2:List Int}{e1 e2:Int}{s1 s2:Value}(h:Pc w n1 l1 e1 n2 l2 e2 s1 s2):mI O0 w (.agg [.sc (.bool n1),.ints .u64 l1,.sc (.int .i64 e1),.sc (.bool n2),.ints .u64 l2,.sc (.int .i64 e2)]) (.agg #[.bool n1,s1,.int .i64 e1,.bool n2,s2,.int .i64 e2]):=by
 refine⟨_,rfl,rfl,fun i s u hs hu=>?_⟩
 match i with
 |0=>cases hs;cases hu;exact⟨rfl,rfl⟩
 |1=>cases hs;cases hu;exact h.a
 |2=>cases hs;cases hu;exact⟨rfl,rfl⟩
 |3=>cases hs;cases hu;exact⟨rfl,rfl⟩
 |4=>cases hs;cases hu;exact h.b
 |5=>cases hs;cases hu;exact⟨rfl,rfl⟩
 |i+6=>simp at hs
theorem Jk{P:Program}{G:Nat->Option (IntKind×List Int)}{f:FuncId}{xs ys:List Value}{rs:List D}(h:∀w,GlobOk G O0 w->Calls P f xs.toArray w fun e w'=>e=.returned (resV ys)/\Below w.heap.size w w')(hl:rs.length=ys.length)
  (hr:∀(i:Nat) (d:D) (v:Value),rs[i]?=some d->ys[i]?=some v->kX d=false/\∀(Y:Nat->Prop) (w:World),mI Y w d v):Contract P G f (xs.map Kr) rs:=by
 intro Y w vs hY hG hlen bDX;have e:vs=xs:=by
  apply cCS;intro i;have hlen:xs.length=vs.length:=by simpa using hlen
  cases hi:vs[i]? with
  |none =>
   have:vs.length<=i:=List.getElem?_eq_none_iff.1 hi;exact(List.getElem?_eq_none_iff.2 (by omega)).symm
  |some v =>
   have kD:i<xs.length:=by rw[hlen];exact(List.getElem?_eq_some_iff.1 hi).1
   have hx:xs[i]?=some xs[i]:=bZK kD;have:=bDX i (Kr xs[i]) v (by simp[hx]) hi;rw[hx,this.1]
 subst e;refine(h w (aIB hG)).mono ?_;rintro e w' ⟨rfl,hb⟩;refine⟨ys,rfl,hb,fun _=>0,hl,fun i j d d' hd _ ho=>?_,fun i d v hd hv=>?_⟩
 ·obtain⟨v,hv⟩:=bD (l:=ys) (i:=i) (by have:=aU hd;omega);rw[(hr i d v hd hv).1]at ho;cases ho
 ·obtain⟨h1,h2⟩:=hr i d v hd hv;cases d with
  |own=>cases h1
  |_=>exact h2 _ _
theorem bNV{Y:Nat->Prop}{w:World}{x y z:Value}(hx:x.oneCell'=true)(hy:y.oneCell'=true)(hz:z.oneCell'=true):mI Y w (.agg [.sc x,.sc y,.sc z]) (.agg #[x,y,z]):=by
 refine⟨_,rfl,rfl,fun i s u hs hu=>?_⟩
 match i with
 |0=>cases hs;cases hu;exact⟨rfl,hx⟩
 |1=>cases hs;cases hu;exact⟨rfl,hy⟩
 |2=>cases hs;cases hu;exact⟨rfl,hz⟩
 |i+3=>simp at hs
theorem aSH{P:Program}{G:Nat->Option (IntKind×List Int)}{f:FuncId}{α β γ δ ε:Type}{p:lB α}{q:lB β}{r:lB γ}{s:lB δ}{t:lB ε}{sp:α->β->γ->δ->ε->Prop×List D}(hb:pE P f)
  (h:∀a b c d e,(sp a b c d e).1->Contract P G f [p.put a,q.put b,r.put c,s.put d,t.put e] (sp a b c d e).2):lO P G f (orc5 p q r s t sp):=by
 intro ds g rs ho hg;unfold orc5 at ho;split at ho
 ·rename_i a1 a2 a3 a4 a5;split at ho
  ·rename_i h1 h2 h3 h4 h5;have e:=Option.some.inj ho;have c:=(h _ _ _ _ _ (by rw[e];exact hg)).of (ds:=[a1,a2,a3,a4,a5]) rfl (fun i d d' hd Af Y w v hr=>by
    match i with
    |0=>cases hd;cases Af;exact p.le h1 Y w v hr
    |1=>cases hd;cases Af;exact q.le h2 Y w v hr
    |2=>cases hd;cases Af;exact r.le h3 Y w v hr
    |3=>cases hd;cases Af;exact s.le h4 Y w v hr
    |4=>cases hd;cases Af;exact t.le h5 Y w v hr
    |i+5=>simp at hd)
   rw[e]at c;exact⟨c,hb⟩
  ·cases ho
 ·cases ho
end AI
namespace W
open Go AI M
namespace iG
def E:=mE [] 16 [] [] []
def aF:=bd f75
theorem aX:Nk E aF:=nk
theorem start a b:aI E f75 aF [D.s (sc (int i64 a)),D.s (sc (int i64 b))]=letI A:=some [D.s (sc (bool false))];aB (decide (1<=a)) (aB (decide (a<=b)) (some [D.s (sc (bool (decide (b<=66000))))]) A) A:=eJ aX
def Dg(a b:Int):Bool:=decide (1<=a/\a<=b/\b<=66000)
def sp(a b:Int):Prop×List D:=(True,[.s (.sc (.bool (Dg a b)))])
theorem spec:hI E f75 aF (pN .i64) (pN .i64) sp:=by
 intro a b h;refine(start a b).trans ?_;unfold sp Dg;dsimp only
 by_cases h1:1<=a
 ·rw[aQ h1]
  by_cases h2:a<=b
  ·rw[aQ h2]
   by_cases h3:b<=66000
   ·rw[decide_eq_true h3,decide_eq_true ⟨h1,h2,h3⟩]
   ·rw[decide_eq_false h3,decide_eq_false (by omega)]
  ·rw[aL h2,decide_eq_false (by omega)]
 ·rw[aL h1,decide_eq_false (by omega)]
def aJ:dK:=orc2 (pN .i64) (pN .i64) sp
theorem ok:OK 75 aJ:=(fJ E aF aD func75).nF rfl spec
end iG
namespace pD
def E:=mE [(52,uW.aJ),(67,wF.aJ),(15,iS.aJ)] 40 [26] [] []
def aF:=bd f127
theorem aX:Nk E aF:=nk
theorem start a b c d e f g:aI E f127 aF [D.s (sc (int i64 a)),D.agg [sc (bool b),ints u64 c,sc (int i64 d),sc (bool e),ints u64 f,sc (int i64 g)]]=letI A:=uW.vB a;aO True (aC A.snd.fst fun h=>aC A.snd.snd fun i=>aB (A.fst==0&&(h==0&&(i==0&&true))) (some [D.s (sc (int u64 0)),D.s (sc (bool false)),D.s (sc (int i64 1))]) (aO (fA (b,c,d,e,f,g)) (aO ((a=32\/a=64)/\aR (b,c,d)) (aC (iS.jY a (dv (b,c,d))) fun j=>aO ((a=32\/a=64)/\aR (e,f,g)) (aC (iS.jY a (dv (e,f,g))) fun k=>aB (j !=k) (some [D.s (sc (int u64 0)),D.s (sc (bool false)),D.s (sc (int i64 0))]) (some [D.s (sc (int u64 j)),D.s (sc (bool true)),D.s (sc (int i64 0))])))))):=eJ aX
def aJZ(f:Int)(s:(Int×Int)×(Int×Int)):Int×Bool:=if iS.jY f s.1=iS.jY f s.2 then(iS.jY f s.1,true)else(0,false)
def sp(f:Int)(s:yA):Prop×List D:=((f=32\/f=64)/\fA s,[.s (.sc (.int .u64 (aJZ f (dv (iH s),dv (iI s))).1)),.s (.sc (.bool (aJZ f (dv (iH s),dv (iI s))).2)),.s (.sc (.int .i64 0))])
theorem spec:hI E f127 aF (pN .i64) zQ sp:=by
 rintro f s ⟨hf,hs⟩;refine(start f s.1 s.2.1 s.2.2.1 s.2.2.2.1 s.2.2.2.2.1 s.2.2.2.2.2).trans ?_;have h0:((uW.vB f).1==0)=false:=by rcases hf with rfl |rfl <;> rfl
 rw[gP trivial,aH,aH,h0,cEC,bF,gP hs,gP ⟨hf,hs.1⟩,aH,gP ⟨hf,hs.2.1⟩,aH];unfold sp aJZ;dsimp only;show aB (iS.jY f (dv (iH s)) !=iS.jY f (dv (iI s))) _ _=_
 by_cases c:iS.jY f (dv (iH s))=iS.jY f (dv (iI s))
 ·rw[if_pos c,gF c];rfl
 ·rw[if_neg c,nZ c]
def aJ:dK:=orc2 (pN .i64) zQ sp
theorem ok:OK 127 aJ:=(fJ E aF (aA uW.ok (aA wF.ok (aA iS.ok aD))) func127).nF rfl spec
end pD
namespace zY
def E:=mE [(126,jZ.aJ),(127,pD.aJ)] 33 [23] [] []
def aF:=bd f74
theorem aX:Nk E aF:=nk
theorem start f g fn x p:aI E f74 aF [D.agg [sc (int i64 f),S.Vh (126:FuncId) [Value.func (Fn.func g) #[] #[],int i64 fn,int u64 x]],D.s (sc (int i64 p))]=letI A:=jZ.enc g fn x p;aO (jZ.pre g fn x p) (aC (isNeg A.fst.fst) fun a=>aC (M6.dg A.fst.fst.natAbs) fun b=>aC A.fst.snd fun c=>aC (isNeg A.snd.fst) fun d=>aC (M6.dg A.snd.fst.natAbs) fun e=>aC A.snd.snd fun h=>letI C:=(a,b,c,d,e,h);letI B:=pD.aJZ f (dv (iH C),dv (iI C));aO ((f=32\/f=64)/\fA C) (aC B.fst fun i=>aC B.snd fun j=>aB j (some [D.s (sc (int u64 i)),D.s (sc (bool true))]) (some [D.s (sc (int u64 i)),D.s (sc (bool false))]))):=eJ aX
def dec(f:Int)(g:Nat)(fn x p:Int):Int×Bool:=pD.aJZ f (jZ.enc g fn x p)
def sp(q:Int×Nat×Int×Int)(p:Int):Prop×List D:=(jZ.pre q.2.1 q.2.2.1 q.2.2.2 p/\(q.1=32\/q.1=64)/\fA (nM (jZ.enc q.2.1 q.2.2.1 q.2.2.2 p).1 (jZ.enc q.2.1 q.2.2.1 q.2.2.2 p).2),[.s (.sc (.int .u64 (dec q.1 q.2.1 q.2.2.1 q.2.2.2 p).1)),.s (.sc (.bool (dec q.1 q.2.1 q.2.2.1 q.2.2.2 p).2))])
theorem fold(a b:Int×Int):(isNeg a.1,M6.dg a.1.natAbs,a.2,isNeg b.1,M6.dg b.1.natAbs,b.2)=nM a b:=rfl
theorem spec:hI E f74 aF (pG (.pair (sN .i64) (bCY 126 (lc vF (lc (vN .i64) (l1 (vN .u64))))))) (pN .i64) sp:=by
 intro q p h;obtain⟨f,g,fn,x⟩:=q;obtain⟨h1,h2,h3⟩:=h;refine(start f g fn x p).trans ?_;have h1:jZ.pre g fn x p:=h1;unfold sp dec;dsimp only at *;rw[gP h1,aH,aH,aH,aH,aH,aH,fold,gP ⟨h2,h3⟩,pQ,pS,aH,aH];show aB (pD.aJZ f (jZ.enc g fn x p)).2 _ _=_;cases (pD.aJZ f (jZ.enc g fn x p)).2 <;> rfl
def aJ:dK:=orc2 (pG (.pair (sN .i64) (bCY 126 (lc vF (lc (vN .i64) (l1 (vN .u64))))))) (pN .i64) sp
theorem ok:OK 74 aJ:=(fJ E aF (aA jZ.ok (aA pD.ok aD)) func74).nF rfl spec
end zY
namespace bW
def E:=mE [(71,fT.aJ),(72,lG.aJ),(73,fF.aJ),(74,zY.aJ)] 54 [21,38,49] [(4,[0,1,2,3,11,12])] [4]
def aF:=bd f27
theorem aX:Nk E aF:=nk
def J4 a b c d e f:=mU E f27 aF 4 [cA a,cA b,cY c,cA d,cA e,cA f]
theorem start a b c d:aI E f27 aF [D.s (sc (int i64 a)),D.s (sc (int i64 b)),D.s (sc (int u64 c)),D.s (sc (int i64 d))]=letI A:=bW.J4 a b c d (dM.lT a c) 1;aO (0<=c/\c<18446744073709551616) (aB (decide (d<1)) A (aB (decide (66000<d)) A (bW.J4 a b c d (dM.lT a c) (fT.oW a b c)))):=eJ aX
theorem Jt a b c d e f:J4 a b c d e f=letI F:=lG.Md a b c e;letI A:=(a,fF.gV b,b,fF.xV a c);letI C:=jZ.enc A.snd.fst A.snd.snd.fst A.snd.snd.snd d;letI B:=zY.dec A.fst A.snd.fst A.snd.snd.fst A.snd.snd.snd d;aB (f !=0) (some [D.s (sc (int u64 0)),D.s (sc (bool false)),D.s (sc (int i64 f))]) (aO ((a=32\/a=64)/\0<=c/\c<18446744073709551616) (aC F.fst fun g=>aC F.snd fun h=>aB h (some [D.s (sc (int u64 g)),D.s (sc (bool true)),D.s (sc (int i64 0))]) (aO (0<=c/\c<18446744073709551616) (aO (jZ.pre (fF.gV b) b (fF.xV a c) d/\(a=32\/a=64)/\fA (nM C.fst C.snd)) (aC B.fst fun i=>aC B.snd fun j=>some [D.s (sc (int u64 i)),D.s (sc (bool j)),D.s (sc (int i64 0))]))))):=cJ aX
def yV(f fn b p:Int):Int×Bool:=zY.dec f (fF.gV fn) fn (fF.xV f b) p
def aTW(f fn b p:Int):Int:=if 1<=p/\p<=66000 then fT.oW f fn b else 1
def Jd(f fn b:Int):Int×Bool:=lG.Md f fn b (dM.lT f b)
def aIT(f fn b p:Int):Int×Bool:=if aTW f fn b p≠0 then(0,false)else bif (Jd f fn b).2 then((Jd f fn b).1,true)else yV f fn b p
def sp(f fn b p:Int):Prop×List D:=(0<=b/\b<18446744073709551616,[.s (.sc (.int .u64 (aIT f fn b p).1)),.s (.sc (.bool (aIT f fn b p).2)),.s (.sc (.int .i64 (aTW f fn b p)))])
theorem spec:Pd E f27 aF (pN .i64) (pN .i64) (pN .u64) (pN .i64) sp:=by
 intro f fn b p h;have hb:0<=b/\b<18446744073709551616:=h;refine(start f fn b p).trans ((gP hb).trans ?_);have j1:∀e:Int,e≠0->J4 f fn b p (dM.lT f b) e=some [.s (.sc (.int .u64 0)),.s (.sc (.bool false)),.s (.sc (.int .i64 e))]:=fun e he=>by rw[Jt,nZ he]
 unfold sp aIT aTW;dsimp only
 by_cases hp:1<=p/\p<=66000
 ·rw[aL,aL,if_pos hp]
  by_cases he:fT.oW f fn b=0
  ·obtain⟨hf,_⟩:=Ziv.yT he;rw[aP,Jt,he,gF rfl,gP ⟨hf,hb⟩,aH,aH];unfold Jd;cases hs:(lG.Md f fn b (dM.lT f b)).2 with
   |true=>rfl
   |false =>
    obtain⟨h1,h2⟩:=Ziv.wS (Ziv.Rm hb he hs) hp;rw[bF,gP hb,gP ⟨h1,hf,h2.Al⟩,aH,aH];rfl
  ·rw[j1 _ he,if_pos he]
 ·rw[if_neg hp,aW]
  by_cases Bd:p<1
  ·rw[aQ Bd,j1 _ (by decide)]
  ·rw[aL Bd,aQ,j1 _ (by decide)]
def aJ:dK:=orc4 (pN .i64) (pN .i64) (pN .u64) (pN .i64) sp
theorem ok:OK 27 aJ:=(fJ E aF (aA fT.ok (aA lG.ok (aA fF.ok (aA zY.ok aD)))) func27).aME rfl spec
end bW
namespace IvLadder
open Go.RowKit Go.Shelf
attribute [local go_sem] Oper.semAt_some
def rungsF:Nat->Int->Int->List Int
 |0,_,_=>[]
 |n+1,p,l=>if p<=l then p :: rungsF n (p*2) l else []
abbrev Vy:={ x:Int // 1<=x/\x<=66000 }
theorem Jg{k:Nat}{p l:Int}(h:p<=l):rungsF (k+1) p l=p :: rungsF k (p*2) l:=by
 rw[rungsF,if_pos h]
set_option maxRecDepth 100000 in
set_option maxHeartbeats 2000000 in
theorem make (w:World) (a b:Int):Calls prog 70 #[.int .i64 a,.int .i64 b] w fun e w'=>e=.returned (.func (.func 124) #[] #[.pointer (some ⟨w.heap.size,0,none⟩),.pointer (some ⟨w.heap.size+1,0,none⟩)])/\w'=(w.alloc (.cells #[.int .i64 a] 3)).alloc (.cells #[.int .i64 b] 3):=by
 refine(callsIn_wide (n:=1)).1 ?_;refine callsIn_of_wp func70 rfl trivial ?_ rfl;simp only[Tryz.ntmps70,cAJ,cCE,cCF,cNO,cNP,Array.replicate_succ,Array.replicate_zero,cNQ,cNR,cCW,cAM]
 gi_wp2
 go_ret
 exact⟨by simp,rfl⟩
set_option maxRecDepth 100000 in
set_option maxHeartbeats 4000000 in
theorem each (F:Fence) (n:Nat) (hF:F.fn 124) (bQS:F.fn 75) (bKW:F.round=none) (hn:1<=n) (l B n₀:Nat) (a b:Int) (ha:1<=a/\a<=66000) (hb:b<=66000) (aWL:a<=b)
  (W:World) (aBQ:∀w',Below W.heap.size W w'->CallsIn F (n-1) prog 75 #[.int .i64 a,.int .i64 b] w' fun e w2=>e=.returned (.bool true)/\Below w'.heap.size w' w2) (J Jx:List Vy->World->Prop)
  (hJ:∀pre W',J pre W->Below W.heap.size W W'->J pre W')
  (hY:∀pre x W,J pre W->pre.length<17->YieldAt F (n-1) prog l #[.int .i64 x.1] W fun e W' =>
   (e=.returned (.bool true)/\J (pre ++ [x]) W'/\Below n₀ W W')\/(e=.returned (.bool false)/\Jx (pre ++ [x]) W'))
  (hB:B+1<n₀) (Di:n₀<=W.heap.size) (h1:W.cell? ⟨B,0,none⟩=some (.int .i64 a)) (h2:W.cell? ⟨B+1,0,none⟩=some (.int .i64 b)) (h0:J [] W) :
  CallsIn F n prog 124 #[.func (.yield l) #[] #[],.pointer (some ⟨B,0,none⟩),.pointer (some ⟨B+1,0,none⟩)] W fun e W'=>(∃v,e=.returned v) /\
   ((∃ys:List Vy,ys.map (·.1)=rungsF 17 a b/\J ys W')\/(∃pre:List Vy,pre.map (·.1) <+: rungsF 17 a b/\Jx pre W')):=by
 refine callsIn_of_wp func124 rfl hF ?_ bKW;simp only[Tryz.ntmps124,cAJ,cCE,cCF,cNO,cNP,Array.replicate_succ,Array.replicate_zero,cNQ,cNR,cCW,cAM]
 gi_wp2_with (gi_at_call 75;refine(aBQ _ (Below.refl _ _)).mono ?_;rintro e w1 ⟨rfl,rW⟩;have c1:w1.cell? ⟨B,0,none⟩=some (.int .i64 a):=(rW.cell (p:=⟨B,0,none⟩) (show B<_ by omega)).trans h1;have c2:w1.cell? ⟨B+1,0,none⟩=some (.int .i64 b):=(rW.cell (p:=⟨B+1,0,none⟩) (show B+1<_ by omega)).trans h2)
 gi_loopw [4] (fun v wr=>∃(k:Nat) (pre:List Vy) (p:Int),v=.int .i64 p/\(1<=p/\p<=132000)/\rungsF 17 a b=pre.map (·.1) ++ rungsF k p b/\pre.length+k=17/\b<p*2^k/\J pre wr/\Below n₀ W wr)
  (fun v _=>(b+1-intOf v).toNat)
 case atStart=>exact⟨17,[],a,rfl,⟨ha.1,by omega⟩,rfl,rfl,(by show b<a*131072;omega),hJ _ _ h0 rW,rW.mono Di⟩
 case round =>
  obtain⟨k,pre,p,rfl,hp,hr,hk,aYS,bQR,aJW⟩:=hrel;have c3:wr.cell? ⟨B+1,0,none⟩=some (.int .i64 b):=(aJW.cell (p:=⟨B+1,0,none⟩) (show B+1<_ by omega)).trans h2
  by_cases hle:p<=b
  ·obtain⟨fn,tmps,assign,body,hy,hR⟩:=hY pre ⟨p,hp.1,by omega⟩ wr bQR (by
    cases k with
    |zero=>simp at aYS;omega
    |succ k=>omega)
   obtain⟨k,rfl⟩:∃j,k=j+1:=by
    cases k with
    |zero=>simp at aYS;omega
    |succ k=>exact⟨k,rfl⟩
   rw[Jg hle]at hr
   gi_wp2
   refine hR.mono ?_;rintro e W3 (⟨rfl,bXE,bFD⟩ |⟨rfl,bMY⟩)
   ·gi_wp2
    go_roundw
    case rel =>
     exact⟨k,pre ++ [⟨p,hp.1,by omega⟩],p*2,rfl,⟨by omega,by omega⟩,by simp[hr],by simp;omega,by rw[Int.pow_succ]at aYS;rw[cFA,Int.mul_comm 2];exact aYS,bXE,aJW.trans bFD⟩
    case measure=>simp[intOf];omega
   ·gi_wp2
    refine bodyPost_ret (results_none rfl _ _ _) rfl ?_;exact⟨⟨_,rfl⟩,.inr ⟨pre ++ [⟨p,hp.1,by omega⟩],⟨rungsF k (p*2) b,by simp[hr]⟩,bMY⟩⟩
  ·have k3:rungsF k p b=[]:=by cases k with
    |zero=>rfl
    |succ k=>unfold rungsF;rw[if_neg hle]
   rw[k3,List.append_nil]at hr
   gi_wp2
   go_end0
   exact⟨⟨_,rfl⟩,.inl ⟨pre,rfl,bQR⟩⟩
theorem stops(F:Fence)(n:Nat)(hF:F.fn 124)(bQS:F.fn 75)(bKW:F.round=none)(hn:1<=n)(B n₀:Nat)(a b:Int)(ha:1<=a/\a<=66000)(hb:b<=66000)(aWL:a<=b)(w:World)
  (aBQ:∀w',Below w.heap.size w w'->CallsIn F (n-1) prog 75 #[.int .i64 a,.int .i64 b] w' fun e w2=>e=.returned (.bool true)/\Below w'.heap.size w' w2) (hB:B+1<n₀) (Di:n₀<=w.heap.size) (h1:w.cell? ⟨B,0,none⟩=some (.int .i64 a)) (h2:w.cell? ⟨B+1,0,none⟩=some (.int .i64 b)) :
  SeqStopsK F n prog 124 #[.pointer (some ⟨B,0,none⟩),.pointer (some ⟨B+1,0,none⟩)] (fun x:Vy=>#[Value.int .i64 x.1]) (Below n₀) (fun ys=>ys.map (·.1)=rungsF 17 a b) (fun pre=>pre.map (·.1) <+: rungsF 17 a b) 17 w:=fun l J Jx W hW hJ _ hY h0 =>
 each F n hF bQS bKW hn l B n₀ a b ha hb aWL W (fun w2 bPC=>aBQ w2 (hW.trans (bPC.mono hW.size))) J Jx (fun pre W' hp Rw=>hJ pre _ _ none hp ⟨Rw.os,Rw.tape,Rw.output,Rw.size,fun k hk _=>Rw.block k hk⟩ (fun r e=>by cases e)) hY hB (bZP Di hW.size)
  ((hW.cell (p:=⟨B,0,none⟩) (show B<_ by omega)).trans h1) ((hW.cell (p:=⟨B+1,0,none⟩) (show B+1<_ by omega)).trans h2) h0
end IvLadder
namespace IvClimb
open Go.RowKit Go.Shelf
attribute [local go_sem] Oper.semAt_some
theorem one{W:World}{B:Nat}{v:Value}{t:TypeId}(h:W.heap[B]?=some (.cells #[v] t (0,0))):W.cell? ⟨B,0,none⟩=some v/\W.frozen? ⟨B,0,none⟩=false:=by
 constructor <;> simp[World.cell?,World.frozen?,h]
theorem three{W:World}{B:Nat}{u v x:Value}{t:TypeId}(h:W.heap[B]?=some (.cells #[u,v,x] t (0,0))):W.cell? ⟨B,0,none⟩=some u/\W.cell? ⟨B,1,none⟩=some v/\W.cell? ⟨B,2,none⟩=some x/\W.frozen? ⟨B,0,none⟩=false/\W.frozen? ⟨B,1,none⟩=false/\W.frozen? ⟨B,2,none⟩=false:=by
 refine⟨?_,?_,?_,?_,?_,?_⟩ <;> simp[World.cell?,World.frozen?,h]
theorem bJZ(n:Nat){f fn b E:Int}(hb:0<=b/\b<18446744073709551616)(he:fT.oW f fn b=E){w:World}(hG:GlobOk base.glob O0 w):∀w',Below w.heap.size w w'->CallsIn Fence.wide n prog 71 #[.int .i64 f,.int .i64 fn,.int .u64 b] w' fun e w2=>e=.returned (.tuple #[.int .i64 (dM.lT f b),.int .i64 E])/\Below w'.heap.size w' w2:=fun w' pW =>
 callsIn_wide.2 (by have c:=xT fT.ok (xs:=[.int .i64 f,.int .i64 fn,.int .u64 b]) (ys:=[.int .i64 (dM.lT f b),.int .i64 (fT.oW f fn b)]) rfl hb (mQ hG pW) (by simp[Value.oneCell']);rw[he]at c;exact c)
theorem bJY(n:Nat){s l:Int}{B:Bool}(hl:iG.Dg s l=B){w:World}(hG:GlobOk base.glob O0 w):∀w',Below w.heap.size w w'->CallsIn Fence.wide n prog 75 #[.int .i64 s,.int .i64 l] w' fun e w2=>e=.returned (.bool B)/\Below w'.heap.size w' w2:=fun w' pW =>
 callsIn_wide.2 (by have c:=xT iG.ok (xs:=[.int .i64 s,.int .i64 l]) (ys:=[.bool (iG.Dg s l)]) rfl trivial (mQ hG pW) (by simp[Value.oneCell']);rw[hl]at c;exact c)
theorem bOS(n:Nat){f fn b:Int}{B:Bool}(hb:0<=b/\b<18446744073709551616)(he:fT.oW f fn b=0)(hs:(bW.Jd f fn b).2=B){w:World}(hG:GlobOk base.glob O0 w):∀w',Below w.heap.size w w'->CallsIn Fence.wide n prog 72 #[.int .i64 f,.int .i64 fn,.int .u64 b,.int .i64 (dM.lT f b)] w' fun e w2=>e=.returned (.tuple #[.int .u64 (bW.Jd f fn b).1,.bool B])/\Below w'.heap.size w' w2:=fun w' pW =>
 callsIn_wide.2 (by have c:=xT lG.ok (xs:=[.int .i64 f,.int .i64 fn,.int .u64 b,.int .i64 (dM.lT f b)]) (ys:=[.int .u64 (bW.Jd f fn b).1,.bool (bW.Jd f fn b).2]) rfl ⟨(Ziv.yT he).1,hb⟩ (mQ hG pW) (by simp[Value.oneCell']);rw[hs]at c;exact c)
theorem opened(w:World):∃W2,(w.alloc (.cells #[.int .u64 0,.bool false,.int .i64 0] 62)).alloc (.cells #[.int .i64 0] 30)=W2/\Below w.heap.size w W2/\W2.heap.size=w.heap.size+2/\W2.heap[w.heap.size]?=some (.cells #[.int .u64 0,.bool false,.int .i64 0] 62 (0,0))/\W2.heap[w.heap.size+1]?=some (.cells #[.int .i64 0] 30 (0,0)):=by
 refine⟨_,rfl,((Below.refl _ w).alloc (bYT _) _).alloc (by simp) _,by simp,(Below.heap_alloc _ _ _ (by simp)).trans (World.alloc_heap_new w _),?_⟩;have:=World.alloc_heap_new (w.alloc (.cells #[.int .u64 0,.bool false,.int .i64 0] 62)) (.cells #[.int .i64 0] 30);simpa using this
set_option maxRecDepth 100000 in
set_option maxHeartbeats 4000000 in
theorem bad (f fn b s l:Int) (hb:0<=b/\b<18446744073709551616) (he:(if iG.Dg s l then fT.oW f fn b else 1)≠0) {w:World} (hG:GlobOk base.glob O0 w):Calls prog 28 #[.int .i64 f,.int .i64 fn,.int .u64 b,.int .i64 s,.int .i64 l] w fun e w'=>e=.returned (.tuple #[.agg #[.int .u64 0,.bool false,.int .i64 0],.int .i64 (if iG.Dg s l then fT.oW f fn b else 1)])/\Below w.heap.size w w':=by
 refine(callsIn_wide (n:=1)).1 ?_;refine callsIn_of_wp func28 rfl trivial ?_ rfl;simp only[Tryz.ntmps28,cAJ,cCE,cCF,cNO,cNP,Array.replicate_succ,Array.replicate_zero,cNQ,cNR,cCW,cAM];have bCF:=bJZ 0 (f:=f) (fn:=fn) hb rfl hG;have aZL:=bJY 0 (s:=s) (l:=l) rfl hG;obtain⟨W2,bIJ,Ry,z2,r1,r2⟩:=opened w;cases hl:iG.Dg s l with
 |true =>
  rw[hl,if_pos rfl]at he;rw[if_pos rfl];have Be:(fT.oW f fn b==0)=false:=beq_eq_false_iff_ne.2 he
  gi_wp2_with (refine⟨trivial,?_⟩;first | (gi_at_call 71;refine(bCF _ Ry).mono ?_;rintro e w3 ⟨rfl,xQ⟩;have aFS:Below w.heap.size w w3:=Ry.trans (xQ.mono (by omega))) | (gi_at_call 75;refine(aZL _ aFS).mono ?_;rintro e w4 ⟨rfl,Rx⟩;have bKD:=xQ.size;have aTM:Below w.heap.size w w4:=aFS.trans (Rx.mono (by omega));obtain⟨c1,c2,c3,k1,k2,k3⟩:=three (((Rx.block _ (by omega)).trans (xQ.block _ (by omega))).trans r1);obtain⟨c4,k4⟩:=one (((Rx.block _ (by omega)).trans (xQ.block _ (by omega))).trans r2)))
  refine⟨rfl,.tuple #[.agg #[.int .u64 0,.bool false,.int .i64 0],.int .i64 (fT.oW f fn b)],by simp[results,f28,go_sem,c1,c2,c3,c4],rfl,?_⟩;refine((((aTM.setCell ?_ _).setCell ?_ _).setCell ?_ _).setCell ?_ _) <;> first |exact bYT _ |exact cLV _
 |false =>
  rw[if_neg (by decide)]
  gi_wp2_with (refine⟨trivial,?_⟩;first | (gi_at_call 71;refine(bCF _ Ry).mono ?_;rintro e w3 ⟨rfl,xQ⟩;have aFS:Below w.heap.size w w3:=Ry.trans (xQ.mono (by omega))) | (gi_at_call 75;refine(aZL _ aFS).mono ?_;rintro e w4 ⟨rfl,Rx⟩;have bKD:=xQ.size;have aTM:Below w.heap.size w w4:=aFS.trans (Rx.mono (by omega));obtain⟨c1,c2,c3,k1,k2,k3⟩:=three (((Rx.block _ (by omega)).trans (xQ.block _ (by omega))).trans r1);obtain⟨c4,k4⟩:=one (((Rx.block _ (by omega)).trans (xQ.block _ (by omega))).trans r2)))
  refine⟨rfl,.tuple #[.agg #[.int .u64 0,.bool false,.int .i64 0],.int .i64 1],by simp[results,f28,go_sem,c1,c2,c3,c4],rfl,?_⟩;refine((((aTM.setCell ?_ _).setCell ?_ _).setCell ?_ _).setCell ?_ _) <;> first |exact bYT _ |exact cLV _
abbrev ptr(b o:Nat):Value:=.pointer (some ⟨b,o,none⟩)
structure aQY(fn x:Int)(g b1 o1 b2 o2 b3 o3:Nat)(W:World):Prop where
 c1:W.cell? ⟨b1,o1,none⟩=some (.func (.func g) #[] #[])
 c2:W.cell? ⟨b2,o2,none⟩=some (.int .i64 fn)
 c3:W.cell? ⟨b3,o3,none⟩=some (.int .u64 x)
theorem Xv{W:World}{b o:Nat}{v:Value}(h:W.cell? ⟨b,o,none⟩=some v):b<W.heap.size:=by
 obtain⟨ob,h1,_⟩:=cells_of_cell h;exact(Array.getElem?_eq_some_iff.1 h1).1
theorem aQY.rep{fn x:Int}{g b1 o1 b2 o2 b3 o3:Nat}{W:World}(h:aQY fn x g b1 o1 b2 o2 b3 o3 W):oT O0 W (.Vh 126 [.func (.func g) #[] #[],.int .i64 fn,.int .u64 x]) (.func (.func 126) #[] #[ptr b1 o1,ptr b2 o2,ptr b3 o3]):=by
 refine⟨[ptr b1 o1,ptr b2 o2,ptr b3 o3],rfl,rfl,fun i x p hx hp=>?_⟩
 match i with
 |0=>cases hx;cases hp;exact⟨rfl,b1,o1,rfl,Xv h.c1,id,h.c1⟩
 |1=>cases hx;cases hp;exact⟨rfl,b2,o2,rfl,Xv h.c2,id,h.c2⟩
 |2=>cases hx;cases hp;exact⟨rfl,b3,o3,rfl,Xv h.c3,id,h.c3⟩
 |i+3=>simp at hx
theorem bDD(f fn b:Int)(hb:0<=b/\b<18446744073709551616){w:World}(hG:GlobOk base.glob O0 w):Calls prog 73 #[.int .i64 f,.int .i64 fn,.int .u64 b] w fun e w'=>∃b1 o1 b2 o2 b3 o3,e=.returned (.agg #[.int .i64 f,.func (.func 126) #[] #[ptr b1 o1,ptr b2 o2,ptr b3 o3]])/\Below w.heap.size w w'/\aQY fn (fF.xV f b) (fF.gV fn) b1 o1 b2 o2 b3 o3 w':=by
 refine(Gh fF.ok (ds:=[Kr (.int .i64 f),Kr (.int .i64 fn),Kr (.int .u64 b)]) (vs:=[.int .i64 f,.int .i64 fn,.int .u64 b]) rfl hb hG rfl (fun i d v hd hv=>?_)).mono ?_
 ·match i with
  |0=>cases hd;cases hv;exact⟨rfl,rfl⟩
  |1=>cases hd;cases hv;exact⟨rfl,rfl⟩
  |2=>cases hd;cases hv;exact⟨rfl,rfl⟩
  |i+3=>simp at hd
 ·rintro e w' ⟨tF,rfl,Rw,g,aHW,-,aBT⟩
  match tF,aHW with
  | [v],_ =>
   have a1:mI _ w' (.agg [.sc (.int .i64 f),.Vh 126 [.func (.func (fF.gV fn)) #[] #[],.int .i64 fn,.int .u64 (fF.xV f b)]]) v:=aBT 0 _ v rfl rfl;obtain⟨arr,rfl,hl,hc⟩:=a1.later El;obtain⟨q1,q2,he⟩:∃q1 q2,arr.toList=[q1,q2]:=by
    match hh:arr.toList,hl with
    | [q1,q2],_=>exact⟨q1,q2,rfl⟩
   rw[he]at hc;have h0:=(hc 0 _ _ rfl rfl).1;obtain⟨ps,hv,Rt,Hy⟩:=hc 1 _ _ rfl rfl
   match ps,Rt with
   | [p1,p2,p3],_ =>
    obtain⟨_,b1,o1,rfl,_,_,k1⟩:=Hy 0 _ _ rfl rfl;obtain⟨_,b2,o2,rfl,_,_,k2⟩:=Hy 1 _ _ rfl rfl;obtain⟨_,b3,o3,rfl,_,_,k3⟩:=Hy 2 _ _ rfl rfl;refine⟨b1,o1,b2,o2,b3,o3,?_,Rw,k1,k2,k3⟩;have:arr=#[q1,q2]:=by rw[<-he]
    rw[this,h0,hv];rfl
theorem aUE(f fn x p:Int){g b1 o1 b2 o2 b3 o3:Nat}{w:World}(h:aQY fn x g b1 o1 b2 o2 b3 o3 w)(hp:(zY.sp (f,g,fn,x) p).1)(hG:GlobOk base.glob O0 w):Calls prog 74 #[.agg #[.int .i64 f,.func (.func 126) #[] #[ptr b1 o1,ptr b2 o2,ptr b3 o3]],.int .i64 p] w fun e w'=>e=.returned (.tuple #[.int .u64 (zY.dec f g fn x p).1,.bool (zY.dec f g fn x p).2])/\Below w.heap.size w w':=by
 refine(Gh zY.ok (ds:=[.agg [.sc (.int .i64 f),.Vh 126 [.func (.func g) #[] #[],.int .i64 fn,.int .u64 x]],Kr (.int .i64 p)]) (vs:=[.agg #[.int .i64 f,.func (.func 126) #[] #[ptr b1 o1,ptr b2 o2,ptr b3 o3]],.int .i64 p]) rfl hp hG rfl (fun i d v hd hv=>?_)).mono ?_
 ·match i with
  |0 =>
   cases hd;cases hv;refine⟨_,rfl,rfl,fun j s u hs hu=>?_⟩
   match j with
   |0=>cases hs;cases hu;exact⟨rfl,rfl⟩
   |1=>cases hs;cases hu;exact h.rep
   |j+2=>simp at hs
  |1=>cases hd;cases hv;exact⟨rfl,rfl⟩
  |i+2=>simp at hd
 ·rintro e w' ⟨tF,rfl,Rw,g',aHW,-,aBT⟩
  match tF,aHW with
  | [v1,v2],_ =>
   have a1:=aBT 0 _ v1 rfl rfl;have a2:=aBT 1 _ v2 rfl rfl;rw[a1.1,a2.1];exact⟨rfl,Rw⟩
set_option maxRecDepth 100000 in
set_option maxHeartbeats 4000000 in
theorem aRN (f fn b s l:Int) (hb:0<=b/\b<18446744073709551616) (hl:iG.Dg s l=true) (he:fT.oW f fn b=0) (hs:(bW.Jd f fn b).2=true) {w:World} (hG:GlobOk base.glob O0 w):Calls prog 28 #[.int .i64 f,.int .i64 fn,.int .u64 b,.int .i64 s,.int .i64 l] w fun e w'=>e=.returned (.tuple #[.agg #[.int .u64 (bW.Jd f fn b).1,.bool true,.int .i64 0],.int .i64 0])/\Below w.heap.size w w':=by
 refine(callsIn_wide (n:=1)).1 ?_;refine callsIn_of_wp func28 rfl trivial ?_ rfl;simp only[Tryz.ntmps28,cAJ,cCE,cCF,cNO,cNP,Array.replicate_succ,Array.replicate_zero,cNQ,cNR,cCW,cAM];have bCF:=bJZ 0 hb he hG;have aZL:=bJY 0 hl hG;have bND:=bOS 0 hb he hs hG;obtain⟨W2,bIJ,Ry,z2,r1,r2⟩:=opened w
 gi_wp2_with (refine⟨trivial,?_⟩;first
  | (gi_at_call 71;refine(bCF _ Ry).mono ?_;rintro e w3 ⟨rfl,xQ⟩;have bOX:=xQ.size;have aFS:Below w.heap.size w w3:=Ry.trans (xQ.mono (by omega)))
  | (gi_at_call 75;refine(aZL _ aFS).mono ?_;rintro e w4 ⟨rfl,Rx⟩;have bKD:=Rx.size;have aTM:Below w.heap.size w w4:=aFS.trans (Rx.mono (by omega)))
  | (gi_at_call 72;refine(bND _ aTM).mono ?_;rintro e w5 ⟨rfl,aNS⟩;have bTJ:=aNS.size;have bIP:Below w.heap.size w w5:=aTM.trans (aNS.mono (by omega));obtain⟨c1,c2,c3,k1,k2,k3⟩:=three ((((aNS.block _ (by omega)).trans (Rx.block _ (by omega))).trans (xQ.block _ (by omega))).trans r1);obtain⟨c4,k4⟩:=one ((((aNS.block _ (by omega)).trans (Rx.block _ (by omega))).trans (xQ.block _ (by omega))).trans r2)))
 refine⟨rfl,.tuple #[.agg #[.int .u64 (bW.Jd f fn b).1,.bool true,.int .i64 0],.int .i64 0],by simp[results,f28,go_sem,c1,c2,c3,c4],rfl,?_⟩;refine((((bIP.setCell ?_ _).setCell ?_ _).setCell ?_ _).setCell ?_ _) <;> first |exact bYT _ |exact cLV _
def first(f fn b:Int):List Int->Option Int
 | []=>none
 |r :: rs=>bif (bW.yV f fn b r).2 then some r else first f fn b rs
def Qw(f fn b s l:Int):Int×Bool×Int:=match first f fn b (IvLadder.rungsF 17 s l)with
 |some r=>((bW.yV f fn b r).1,true,r)
 |none=>(0,false,0)
theorem Of{f fn b:Int}:∀{rs:List Int},(∀r∈rs,(bW.yV f fn b r).2=false)->first f fn b rs=none
 | [],_=>rfl
 |r :: rs,h=>by unfold first;rw[h r (by simp),cond_false];exact Of fun r hr=>h r (by simp[hr])
theorem Oe{f fn b r:Int}:∀{pre rs:List Int},(∀r∈pre,(bW.yV f fn b r).2=false)->(bW.yV f fn b r).2=true->first f fn b (pre ++ r :: rs)=some r
 | [],rs,_,h=>by show first f fn b (r :: rs)=_;unfold first;rw[h,cond_true]
 |p :: pre,rs,hp,h=>by
  show first f fn b (p :: (pre ++ r :: rs))=_
  unfold first
  rw[hp p (by simp),cond_false];exact Oe (fun r hr=>hp r (by simp[hr])) h
structure aAG(n0:Nat)(x y z e:Value)(W:World):Prop where
 c1:W.cell? ⟨n0,0,none⟩=some x
 c2:W.cell? ⟨n0,1,none⟩=some y
 c3:W.cell? ⟨n0,2,none⟩=some z
 c4:W.cell? ⟨n0+1,0,none⟩=some e
 k1:W.frozen? ⟨n0,0,none⟩=false
 k2:W.frozen? ⟨n0,1,none⟩=false
 k3:W.frozen? ⟨n0,2,none⟩=false
 k4:W.frozen? ⟨n0+1,0,none⟩=false
theorem aAG.kept{n0:Nat}{x y z e:Value}{W W':World}{row:Option Nat}(h:aAG n0 x y z e W)(hg:W.grownBy W' row)(hr:∀r,row=some r->∃o:Obj,W.heap[r]?=some o/\o.isCells=false):aAG n0 x y z e W' :=
 ⟨cell_kept h.c1 hg hr,cell_kept h.c2 hg hr,cell_kept h.c3 hg hr,cell_kept h.c4 hg hr,(frozen_kept h.c1 hg hr).trans h.k1,(frozen_kept h.c2 hg hr).trans h.k2,(frozen_kept h.c3 hg hr).trans h.k3,(frozen_kept h.c4 hg hr).trans h.k4⟩
theorem aAG.below{n0:Nat}{x y z e:Value}{W W':World}(h:aAG n0 x y z e W)(hb:Below W.heap.size W W'):aAG n0 x y z e W':=h.kept (row:=none) ⟨hb.os,hb.tape,hb.output,hb.size,fun k hk _=>hb.block k hk⟩ (fun r e=>by cases e)
theorem aJL(W:World)(a c:Addr)(v:Value)(h:a≠c):(W.setCell a v).cell? c=W.cell? c:=by
 first |exact World.cell?_setCell_other W a v c h |exact World.cell?_setCell_other W a c v h
theorem aAG.put{n0:Nat}{x y z e:Value}{W:World}(h:aAG n0 x y z e W)(x' y' z' e':Value):aAG n0 x' y' z' e' ((((W.setCell ⟨n0,0,none⟩ x').setCell ⟨n0,1,none⟩ y').setCell ⟨n0,2,none⟩ z').setCell ⟨n0+1,0,none⟩ e'):=by
 obtain⟨c1,c2,c3,c4,k1,k2,k3,k4⟩:=h;refine⟨?_,?_,?_,?_,by simp[k1],by simp[k2],by simp[k3],by simp[k4]⟩
 ·rw[aJL _ _ _ _ (by simp),aJL _ _ _ _ (by simp),aJL _ _ _ _ (by simp)];exact World.cell?_setCell_same' _ _ _ (by rw[c1];rfl)
 ·rw[aJL _ _ _ _ (by simp),aJL _ _ _ _ (by simp)];exact World.cell?_setCell_same' _ _ _ (by rw[aJL _ _ _ _ (by simp),c2];rfl)
 ·rw[aJL _ _ _ _ (by simp)];exact World.cell?_setCell_same' _ _ _ (by rw[aJL _ _ _ _ (by simp),aJL _ _ _ _ (by simp),c3];rfl)
 ·exact World.cell?_setCell_same' _ _ _ (by rw[aJL _ _ _ _ (by simp),aJL _ _ _ _ (by simp),aJL _ _ _ _ (by simp),c4];rfl)
theorem aAG.out{n0:Nat}{x y z e:Value}{W:World}(h:aAG n0 x y z e W)(tmps:Array Value)(h1:tmps[10]?=some (.pointer (some ⟨n0,0,none⟩)))(h2:tmps[11]?=some (.pointer (some ⟨n0+1,0,none⟩))):(results f28 tmps).run prog W=.ok (.tuple #[.agg #[x,y,z],e]) W:=by
 obtain⟨c1,c2,c3,c4,_⟩:=h;simp[results,f28,go_sem,c1,c2,c3,c4,Array.getD_eq_getD_getElem?,h1,h2]
theorem Hm{B n0:Nat}{A W:World}(h:Below B A W)(hB:B<=n0)(x y z e:Value):Below B A ((((W.setCell ⟨n0,0,none⟩ x).setCell ⟨n0,1,none⟩ y).setCell ⟨n0,2,none⟩ z).setCell ⟨n0+1,0,none⟩ e) :=
 (((h.setCell (p:=⟨n0,0,none⟩) hB _).setCell (p:=⟨n0,1,none⟩) hB _).setCell (p:=⟨n0,2,none⟩) hB _).setCell (p:=⟨n0+1,0,none⟩) (Nat.le_succ_of_le hB) _
theorem Ri(n0:Nat)(W:World)(x y z e:Value):KeepsOthers W ((((W.setCell ⟨n0,0,none⟩ x).setCell ⟨n0,1,none⟩ y).setCell ⟨n0,2,none⟩ z).setCell ⟨n0+1,0,none⟩ e) :=
 (((KeepsOthers.setCell _ _ _).trans (KeepsOthers.setCell _ _ _)).trans (KeepsOthers.setCell _ _ _)).trans (KeepsOthers.setCell _ _ _)
theorem aQY.kept{fn x:Int}{g b1 o1 b2 o2 b3 o3:Nat}{W W':World}{row:Option Nat}(h:aQY fn x g b1 o1 b2 o2 b3 o3 W)(hg:W.grownBy W' row)(hr:∀r,row=some r->∃o:Obj,W.heap[r]?=some o/\o.isCells=false):aQY fn x g b1 o1 b2 o2 b3 o3 W' :=
 ⟨cell_kept h.c1 hg hr,cell_kept h.c2 hg hr,cell_kept h.c3 hg hr⟩
set_option maxRecDepth 100000 in
set_option maxHeartbeats 8000000 in
theorem bAD (f fn b s l:Int) (hb:0<=b/\b<18446744073709551616) (hl:iG.Dg s l=true) (he:fT.oW f fn b=0) (hs:(bW.Jd f fn b).2=false) {w:World} (hG:GlobOk base.glob O0 w):Calls prog 28 #[.int .i64 f,.int .i64 fn,.int .u64 b,.int .i64 s,.int .i64 l] w fun e w'=>e=.returned (.tuple #[.agg #[.int .u64 (Qw f fn b s l).1,.bool (Qw f fn b s l).2.1,.int .i64 (Qw f fn b s l).2.2],.int .i64 0])/\Below w.heap.size w w':=by
 refine(callsIn_wide (n:=3)).1 ?_;refine callsIn_of_wp_marks func28 rfl trivial ?_ rfl;simp only[Tryz.ntmps28,cAJ,cCE,cCF,cNO,cNP,Array.replicate_succ,Array.replicate_zero,cNQ,cNR,cCW,cAM];have bCF:=bJZ 2 hb he hG;have aZL:=bJY 2 hl hG;have bND:=bOS 2 hb he hs hG;have bXI:∀w',Below w.heap.size w w'->CallsIn Fence.wide 2 prog 73 #[.int .i64 f,.int .i64 fn,.int .u64 b] w' fun e w2=>∃b1 o1 b2 o2 b3 o3,e=.returned (.agg #[.int .i64 f,.func (.func 126) #[] #[ptr b1 o1,ptr b2 o2,ptr b3 o3]])/\Below w'.heap.size w' w2/\aQY fn (fF.xV f b) (fF.gV fn) b1 o1 b2 o2 b3 o3 w2:=fun w' pW =>
  callsIn_wide.2 (bDD f fn b hb (mQ hG pW))
 have Qf:∀(a:Addr) (W:World) (v:Value) (x:Fn) (y z:Array Value),W.cell? a=some v->W.frozen? a=false->(store a (.func x y z)).run prog W=.ok () (W.setCell a (.func x y z)):=fun a W v x y z h1 h2=>by
  rw[run_store _ _ _ _ _ rfl,h1,h2];rfl
 obtain⟨W2,bIJ,Ry,z2,r1,r2⟩:=opened w
 gi_wp2_with (refine⟨trivial,?_⟩;first
  | (gi_at_call 71;refine(bCF _ Ry).mono ?_;rintro e w3 ⟨rfl,xQ⟩;have bOX:=xQ.size;have aFS:Below w.heap.size w w3:=Ry.trans (xQ.mono (by omega)))
  | (gi_at_call 75;refine(aZL _ aFS).mono ?_;rintro e w4 ⟨rfl,Rx⟩;have bKD:=Rx.size;have aTM:Below w.heap.size w w4:=aFS.trans (Rx.mono (by omega)))
  | (gi_at_call 72;refine(bND _ aTM).mono ?_;rintro e w5 ⟨rfl,aNS⟩;have bTJ:=aNS.size;have bIP:Below w.heap.size w w5:=aTM.trans (aNS.mono (by omega)))
  | (gi_at_call 73;refine(bXI _ bIP).mono ?_;rintro e w6 ⟨b1,o1,b2,o2,b3,o3,rfl,bIF,aZF⟩;have hz6:=bIF.size;have bXH:Below w.heap.size w w6:=bIP.trans (bIF.mono (by omega));obtain⟨c1,c2,c3,k1,k2,k3⟩:=three (((((bIF.block _ (by omega)).trans (aNS.block _ (by omega))).trans (Rx.block _ (by omega))).trans (xQ.block _ (by omega))).trans r1);obtain⟨c4,k4⟩:=one (((((bIF.block _ (by omega)).trans (aNS.block _ (by omega))).trans (Rx.block _ (by omega))).trans (xQ.block _ (by omega))).trans r2))
  | (gi_at_call 70;refine(callsIn_wide.2 (IvLadder.make _ s l)).mono ?_;rintro e w7 ⟨rfl,rfl⟩))
 have aBQ:1<=s/\s<=l/\l<=66000:=of_decide_eq_true hl;have aTA:=Ziv.Rm hb he hs;have hf:=aTA.fin.1;have bLB:∀x:IvLadder.Vy,(zY.sp (f,fF.gV fn,fn,fF.xV f b) x.1).1:=fun x=>by
  obtain⟨h1,h2⟩:=Ziv.wS aTA x.2;exact⟨h1,hf,h2.Al⟩
 obtain⟨W7,bII⟩:∃W7,w6.alloc (.cells #[.int .i64 f,.func (.func 126) #[] #[ptr b1 o1,ptr b2 o2,ptr b3 o3]] 129)=W7:=⟨_,rfl⟩;obtain⟨W8,bGB⟩:∃W8,(W7.alloc (.cells #[.int .i64 s] 3)).alloc (.cells #[.int .i64 l] 3)=W8:=⟨_,rfl⟩;rw[bII,bGB];have z7:W7.heap.size=w6.heap.size+1:=by rw[<-bII];simp
 have z8:W8.heap.size=w6.heap.size+3:=by rw[<-bGB];simp[z7]
 have bMM:Below w6.heap.size w6 W7:=by rw[<-bII];exact(Below.refl _ _).alloc (bYT _) _
 have bFZ:Below W7.heap.size W7 W8:=by rw[<-bGB];exact((Below.refl _ _).alloc (bYT _) _).alloc (by simp) _
 have aBV:Below w6.heap.size w6 W8:=bMM.trans (bFZ.mono (by omega));have bQV:Below w.heap.size w W8:=bXH.trans (aBV.mono (by omega));have q7:W7.heap[w6.heap.size]?=some (.cells #[.int .i64 f,.func (.func 126) #[] #[ptr b1 o1,ptr b2 o2,ptr b3 o3]] 129 (0,0)):=by rw[<-bII];exact World.alloc_heap_new _ _
 have q8:W8.heap[w6.heap.size]?=some (.cells #[.int .i64 f,.func (.func 126) #[] #[ptr b1 o1,ptr b2 o2,ptr b3 o3]] 129 (0,0)):=(bFZ.block _ (by omega)).trans q7;have p1:W8.cell? ⟨w6.heap.size,0,none⟩=some (.int .i64 f):=by simp[World.cell?,q8]
 have p2:W8.cell? ⟨w6.heap.size,1,none⟩=some (.func (.func 126) #[] #[ptr b1 o1,ptr b2 o2,ptr b3 o3]):=by simp[World.cell?,q8]
 have s1:W8.cell? ⟨W7.heap.size,0,none⟩=some (.int .i64 s):=by rw[<-bGB,World.cell?_alloc_past _ _ _ (by simp)];simp
 have s2:W8.cell? ⟨W7.heap.size+1,0,none⟩=some (.int .i64 l):=by rw[<-bGB];simp[World.cell?_alloc_at]
 rw[z7]at s1 s2;have Ul:aAG w.heap.size (.int .u64 0) (.bool false) (.int .i64 0) (.int .i64 0) W8:=aAG.below ⟨c1,c2,c3,c4,k1,k2,k3,k4⟩ aBV;have bFU:aQY fn (fF.xV f b) (fF.gV fn) b1 o1 b2 o2 b3 o3 W8:=aZF.kept (row:=none) ⟨aBV.os,aBV.tape,aBV.output,aBV.size,fun k hk _=>aBV.block k hk⟩ (fun r e=>by cases e);refine wpIn_rangeFunc_ownF rfl (by omega) (gf:=124) (lb:=#[.pointer (some ⟨w6.heap.size+1,0,none⟩),.pointer (some ⟨w6.heap.size+1+1,0,none⟩)]) rfl trivial (enters_of func124 (by kernel_rfl) rfl)
  (IvLadder.stops Fence.wide (3-1) trivial trivial rfl (by omega) (w6.heap.size+1) W8.heap.size s l ⟨aBQ.1,by omega⟩ aBQ.2.2 aBQ.2.1 W8 (fun w' bBN=>callsIn_wide.2 (callsIn_wide.1 (aZL w' (bQV.trans (bBN.mono (by omega)))))) (by omega) (bYT _) s1 s2) belowK_t (belowK_b (bYT _)) (Below.refl _ _) (fun _=>rfl)
  (fun pre W=>((∀r∈pre,(bW.yV f fn b r.1).2=false)/\aAG w.heap.size (.int .u64 0) (.bool false) (.int .i64 0) (.int .i64 0) W/\W.cell? ⟨w6.heap.size,0,none⟩=some (.int .i64 f)/\W.cell? ⟨w6.heap.size,1,none⟩=some (.func (.func 126) #[] #[ptr b1 o1,ptr b2 o2,ptr b3 o3])/\aQY fn (fF.xV f b) (fF.gV fn) b1 o1 b2 o2 b3 o3 W/\W8.heap.size<=W.heap.size)/\Below w.heap.size w W)
  (fun c pre W=>(c=.ret/\∃(r:IvLadder.Vy) (init:List IvLadder.Vy),pre=init ++ [r]/\(∀r∈init,(bW.yV f fn b r.1).2=false)/\(bW.yV f fn b r.1).2=true/\aAG w.heap.size (.int .u64 (bW.yV f fn b r.1).1) (.bool true) (.int .i64 r.1) (.int .i64 0) W)/\Below w.heap.size w W)
  (OwnFrom.and (Own.from (fun t A B row hs hg hr=>⟨hs.1,hs.2.1.kept hg hr,cell_kept hs.2.2.1 hg hr,cell_kept hs.2.2.2.1 hg hr,hs.2.2.2.2.1.kept hg hr,bZP hs.2.2.2.2.2 hg.size⟩) _) (ownFrom_below (bYT _) (by omega)))
  (fun c=>OwnFrom.and (Own.from (fun t A B row hs hg hr=>by obtain⟨h1,r,init,h2,h3,h4,h5⟩:=hs;exact⟨h1,r,init,h2,h3,h4,h5.kept hg hr⟩) _) (ownFrom_below (bYT _) (by omega)))
  ⟨⟨(fun r h=>by cases h),Ul,p1,p2,bFU,bYT _⟩,bQV⟩ ?a₁ ?assign ?body ?done ?stop
 case assign =>
  intro k x W K hK
  gi_wp2
  exact hK
 case body =>
  rintro k pre x W ⟨⟨bBR,hR,Bd,wZ,hC,hZ⟩,hB⟩ _;have bXG:GlobOk base.glob O0 W:=mQ hG hB;have bGF:=aUE f fn (fF.xV f b) x.1 hC (bLB x) bXG;have ez:zY.dec f (fF.gV fn) fn (fF.xV f b) x.1=bW.yV f fn b x.1:=rfl;rw[ez]at bGF;have rT:=hB.size;have Di:=Xv hR.c1;have aBM:=Xv hR.c4;cases hd:(bW.yV f fn b x.1).2 with
  |false =>
   rw[hd]at bGF
   gi_wp2
   refine⟨trivial,?_⟩
   gi_at_call 74
   refine(CallsIn.inRound k (callsIn_wide.2 bGF)).mono ?_;rintro e w9 ⟨rfl,Yk⟩
   gi_wp2
   have gr:W.grownBy w9 none:=⟨Yk.os,Yk.tape,Yk.output,Yk.size,fun k hk _=>Yk.block k hk⟩;have nr:∀r,(none:Option Nat)=some r->∃o:Obj,W.heap[r]?=some o/\o.isCells=false:=fun r e=>by cases e
   refine⟨KeepsOthers.of_grownBy gr (fun j o e=>by cases e),Yk.mono hZ,⟨fun r hr=>?_,hR.kept gr nr,cell_kept Bd gr nr,cell_kept wZ gr nr,hC.kept gr nr,bZP hZ Yk.size⟩,hB.trans (Yk.mono (by omega))⟩;rcases List.mem_append.1 hr with hr |hr
   ·exact bBR r hr
   ·rw[List.mem_singleton.1 hr];exact hd
  |true =>
   rw[hd]at bGF
   gi_wp2_with (refine⟨trivial,?_⟩;gi_at_call 74;refine(CallsIn.inRound k (callsIn_wide.2 bGF)).mono ?_;rintro e w9 ⟨rfl,Yk⟩;obtain⟨c1,c2,c3,c4,k1,k2,k3,k4⟩:=hR.below Yk)
   have gr:W.grownBy w9 none:=⟨Yk.os,Yk.tape,Yk.output,Yk.size,fun k hk _=>Yk.block k hk⟩;exact⟨(KeepsOthers.of_grownBy gr (fun j o e=>by cases e)).trans (Ri _ _ _ _ _ _),⟨rfl,x,pre,rfl,bBR,hd,(aAG.below hR Yk).put _ _ _ _⟩,Hm (hB.trans (Yk.mono (by omega))) (bYT _) _ _ _ _⟩
 case done =>
  rintro D ys W hD hS ⟨⟨bBR,hR,_⟩,hB⟩ hK;have bWV:=hR;obtain⟨c1,c2,c3,c4,k1,k2,k3,k4⟩:=bWV
  gi_wp2
  have bQQ:=(Ri w.heap.size W (.int .u64 0) (.bool false) (.int .i64 0) (.int .i64 0)).same D _ hK rfl;refine⟨by simp,.inl ⟨_,_,rfl,run_takeDeferred bQQ,?_⟩⟩;have bMS:=(hR.put (.int .u64 0) (.bool false) (.int .i64 0) (.int .i64 0)).kept (grownBy_putObj' _ D (.deferred none)) (fun r e=>by cases e;exact⟨_,bQQ,rfl⟩);have en:Qw f fn b s l=(0,false,0):=by
   unfold Qw;rw[<-hS,Of (fun r hr=>by obtain⟨x,hx,rfl⟩:=List.mem_map.1 hr;exact bBR x hx)]
  refine⟨_,bMS.out _ rfl rfl,?_⟩;rw[en];exact⟨rfl,(Hm hB (bYT _) _ _ _ _).grown (grownBy_putObj' _ D (.deferred none)) (Hm hB (bYT _) _ _ _ _).size (fun k e=>by cases e;omega)⟩
 case stop =>
  rintro D c pre W hD hS ⟨⟨rfl,r,init,rfl,bBR,hd,hR⟩,hB⟩ hK
  gi_wp2
  refine⟨by simp,.inl ⟨_,_,rfl,run_takeDeferred hK,?_⟩⟩;have bMS:=hR.kept (grownBy_putObj' _ D (.deferred none)) (fun r e=>by cases e;exact⟨_,hK,rfl⟩);have en:Qw f fn b s l=((bW.yV f fn b r.1).1,true,r.1):=by
   obtain⟨rest,hr⟩:=hS;unfold Qw;rw[<-hr,List.map_append,List.map_cons,List.map_nil,List.append_assoc,cAM,cCW,Oe (fun r hr=>by obtain⟨x,hx,rfl⟩:=List.mem_map.1 hr;exact bBR x hx) hd]
  refine⟨_,bMS.out _ rfl rfl,?_⟩;rw[en];exact⟨rfl,hB.grown (grownBy_putObj' _ D (.deferred none)) hB.size (fun k e=>by cases e;omega)⟩
def Kd(f fn b s l:Int):Int:=if iG.Dg s l then fT.oW f fn b else 1
def Dj(f fn b s l:Int):Int×Bool×Int:=if Kd f fn b s l≠0 then(0,false,0)else bif (bW.Jd f fn b).2 then((bW.Jd f fn b).1,true,0)else Qw f fn b s l
def sp(f fn b s l:Int):Prop×List D:=(0<=b/\b<18446744073709551616,[.agg [.sc (.int .u64 (Dj f fn b s l).1),.sc (.bool (Dj f fn b s l).2.1),.sc (.int .i64 (Dj f fn b s l).2.2)],.s (.sc (.int .i64 (Kd f fn b s l)))])
def aJ:dK:=orc5 (pN .i64) (pN .i64) (pN .u64) (pN .i64) (pN .i64) sp
theorem ok:OK 28 aJ:=aSH (pM func28 rfl rfl) fun f fn b s l hb=>by
 have hb:0<=b/\b<18446744073709551616:=hb;refine Jk (xs:=[.int .i64 f,.int .i64 fn,.int .u64 b,.int .i64 s,.int .i64 l]) (ys:=[.agg #[.int .u64 (Dj f fn b s l).1,.bool (Dj f fn b s l).2.1,.int .i64 (Dj f fn b s l).2.2],.int .i64 (Kd f fn b s l)]) (fun w hG=>?_) rfl (fun i d v hd hv=>?_)
 ·unfold Dj
  by_cases he:Kd f fn b s l≠0
  ·rw[if_pos he];exact bad f fn b s l hb he hG
  ·rw[if_neg he];have e0:Kd f fn b s l=0:=Classical.not_not.1 he;rw[e0];unfold Kd at e0;cases hl:iG.Dg s l with
   |false=>rw[hl]at e0;cases e0
   |true =>
    rw[hl,if_pos rfl]at e0;cases hs:(bW.Jd f fn b).2 with
    |true=>exact aRN f fn b s l hb hl e0 hs hG
    |false=>exact bAD f fn b s l hb hl e0 hs hG
 ·match i with
  |0=>cases hd;cases hv;exact⟨rfl,fun Y w=>bNV rfl rfl rfl⟩
  |1=>cases hd;cases hv;exact⟨rfl,fun Y w=>⟨rfl,rfl⟩⟩
  |i+2=>cases hd
end IvClimb
namespace fC
def E:=mE [(28,IvClimb.aJ)] 23 [15] [] []
def aF:=bd f26
theorem aX:Nk E aF:=nk
theorem start a b c:aI E f26 aF [D.s (sc (int i64 a)),D.s (sc (int i64 b)),D.s (sc (int u64 c))]=letI A:=IvClimb.Dj a b c 128 65536;aO (0<=c/\c<18446744073709551616) (some [D.s (sc (int u64 A.fst)),D.s (sc (bool A.snd.fst)),D.s (sc (int i64 (IvClimb.Kd a b c 128 65536)))]):=eJ aX
def oL(f fn b:Int):Int×Bool×Int:=IvClimb.Dj f fn b 128 65536
def sp(f fn b:Int):Prop×List D:=(0<=b/\b<18446744073709551616,[.s (.sc (.int .u64 (oL f fn b).1)),.s (.sc (.bool (oL f fn b).2.1)),.s (.sc (.int .i64 (fT.oW f fn b)))])
theorem spec:pO E f26 aF (pN .i64) (pN .i64) (pN .u64) sp:=by
 intro f fn b h;refine(start f fn b).trans ((gP h).trans ?_);have e:IvClimb.Kd f fn b 128 65536=fT.oW f fn b:=if_pos rfl;rw[e];rfl
def aJ:dK:=orc3 (pN .i64) (pN .i64) (pN .u64) sp
theorem ok:OK 26 aJ:=(fJ E aF (aA IvClimb.ok aD) func26).zR rfl spec
end fC
end W
namespace W.Ziv
open Go AI M W W.Qy
theorem qD{f:Int}(hf:f=32\/f=64){p q:Int×Int}(h0:0<p.1)(h:R.qz p<=R.qz q):iS.jY f p<=iS.jY f q:=by
 have q0:0<q.1:=kB.1 (by have:=kB.2 h0;grind);have m:=Hs hf h;have b1:=Rc hf p;have b2:=Rc hf q;rw[vO h0,vO q0]at *;unfold ord at m;rw[aW,aW]at m;exact m
def Ch(f Q:Int)(V:Rat):Prop:=∃a c:Int×Int,0<a.1/\R.qz a<=V/\V<=R.qz c/\iS.jY f a=Q/\iS.jY f c=Q
def aUV(f Q:Int)(V:Rat):Prop:=Ch f Q V\/Ch f (Q-sg f) (-V)
theorem Ch.pos{f Q:Int}{V:Rat}(h:Ch f Q V):0<V:=by
 obtain⟨a,c,h0,h1,_⟩:=h;have:=kB.2 h0;grind
theorem Ch.bd{f Q:Int}{V:Rat}(hf:f=32\/f=64)(h:Ch f Q V):0<=Q/\Q<=iN.jV (uW.vB f)/\iN.jV (uW.vB f)<sg f:=by
 obtain⟨a,c,h0,_,_,rfl,_⟩:=h;rw[vO h0];exact Rc hf a
theorem Ch.eq{f Q Q':Int}{V:Rat}(hf:f=32\/f=64)(h:Ch f Q V)(h':Ch f Q' V):Q=Q':=by
 obtain⟨a,c,h0,h1,h2,rfl,e1⟩:=h;obtain⟨a',c',bIQ,Yl,aNY,rfl,e2⟩:=h';have m1:=qD hf h0 (cDY h1 aNY);have m2:=qD hf bIQ (cDY Yl h2);omega
theorem aUV.eq{f Q Q':Int}{V:Rat}(hf:f=32\/f=64)(h:aUV f Q V)(h':aUV f Q' V):Q=Q':=by
 rcases h with h |h <;> rcases h' with h' |h'
 ·exact h.eq hf h'
 ·have:=h.pos;have:=h'.pos;grind
 ·have:=h.pos;have:=h'.pos;grind
 ·have:=h.eq hf h';omega
theorem aUV.bd{f Q:Int}{V:Rat}(hf:f=32\/f=64)(h:aUV f Q V):0<=Q/\Q<2*sg f:=by
 rcases h with h |h <;> have:=h.bd hf <;> omega
theorem bAM{f fn b p Q:Int}(h:Ns f fn b)(hp:1<=p/\p<=66000)(hd:bW.yV f fn b p=(Q,true)):aUV f Q (vZ fn (fF.xV f b)):=by
 have hf:=h.fin.1;obtain⟨_,hE⟩:=wS h hp;have aVE:=hE.aVE hp.1;obtain⟨_,_,lo,hi,_,v0⟩:=hE;have hd:pD.aJZ f (jZ.enc (fF.gV fn) fn (fF.xV f b) p)=(Q,true):=hd;generalize jZ.enc (fF.gV fn) fn (fF.xV f b) p=s at *;generalize vZ fn (fF.xV f b)=V at *;unfold pD.aJZ at hd
 by_cases e:iS.jY f s.1=iS.jY f s.2
 ·rw[if_pos e]at hd;have hQ:iS.jY f s.1=Q:=congrArg Prod.fst hd
  by_cases hV:0<V
  ·exact .inl ⟨s.1,s.2,kB.1 (aVE.1 hV),lo,hi,hQ,by omega⟩
  ·have hn:V<0:=by grind
   have s2:=yI.1 (aVE.2 hn);have s1:s.1.1<0:=yI.1 (by have:=aVE.2 hn;grind);have n1:=Fp hf s1;have n2:=Fp hf s2;refine .inr ⟨(-s.2.1,s.2.2),(-s.1.1,s.1.2),by show 0 < -s.2.1;omega,?_,?_,?_,?_⟩
   ·rw[oQ];grind
   ·rw[oQ];grind
   ·rw[vO (by show 0 < -s.2.1;omega)];have:sz f (-s.2.1,s.2.2)=sz f s.2:=by unfold sz;rw[cFE]
    omega
   ·rw[vO (by show 0 < -s.1.1;omega)];have:sz f (-s.1.1,s.1.2)=sz f s.1:=by unfold sz;rw[cFE]
    omega
 ·rw[if_neg e]at hd;cases congrArg Prod.snd hd
theorem Xe:∀{k:Nat} {p l r:Int},1<=p->r∈IvLadder.rungsF k p l->1<=r/\r<=l
 |0,_,_,_,_,h=>by cases h
 |k+1,p,l,r,hp,h=>by
  unfold IvLadder.rungsF at h
  by_cases c:p<=l
  ·rw[if_pos c]at h;cases h with
   |head=>exact⟨hp,c⟩
   |tail _ h=>exact Xe (by omega) h
  ·rw[if_neg c]at h;cases h
theorem Sc{f fn b r:Int}:∀{rs:List Int},IvClimb.first f fn b rs=some r->r∈rs/\(bW.yV f fn b r).2=true
 | [],h=>by cases h
 |x :: rs,h=>by
  unfold IvClimb.first at h
  cases c:(bW.yV f fn b x).2 with
  |true=>rw[c,cond_true]at h;cases h;exact⟨.head _,c⟩
  |false =>
   rw[c,cond_false]at h;obtain⟨h1,h2⟩:=Sc h;exact⟨.tail _ h1,h2⟩
theorem Ls{f fn b:Int}(hb:0<=b/\b<18446744073709551616)(he:fT.oW f fn b=0)(hs:(bW.Jd f fn b).2=false)(hv:(fC.oL f fn b).2.1=true):aUV f (fC.oL f fn b).1 (vZ fn (fF.xV f b)):=by
 have hn:=Rm hb he hs;have el:iG.Dg 128 65536=true:=rfl;unfold fC.oL IvClimb.Dj IvClimb.Kd at *;rw[el,if_pos rfl,he,if_neg (by decide),hs,cond_false]at *;unfold IvClimb.Qw at *;cases hr:IvClimb.first f fn b (IvLadder.rungsF 17 128 65536)with
 |none=>rw[hr]at hv;cases hv
 |some r =>
  obtain⟨h1,h2⟩:=Sc hr;obtain⟨h3,h4⟩:=Xe (by decide) h1;refine bAM hn (p:=r) ⟨h3,by omega⟩ ?_;show _=((bW.yV f fn b r).1,true);rw[<-h2]
end W.Ziv
namespace W.Ziv
open Go AI M W W.Qy
theorem aOC{x:Int}(h:Fin 64 x):Real x:=by
 obtain⟨_,hb,h1,h2⟩:=h;have hx:0<=x/\x<18446744073709551616:=hb;have h1:0<x%9223372036854775808:=h1;have h2:x%9223372036854775808<9218868437227405312:=h2;have c:fM.Tb 1 x 1=0:=by rw[aAI,aP,aP,aP,aP,if_pos h2]
 exact(aEK hx c (by omega)).1
theorem Ch.neg{f P:Int}{V:Rat}(h:Ch f P V):aUV f (P+sg f) (-V):=.inr (by rw[cNT,show - -V=V by grind];exact h)
theorem Tv{f b:Int}(hf:f=32\/f=64)(hb:0<=b/\b<2*sg f):cC.fB f b=true:=by
 unfold cC.fB;rcases hf with rfl |rfl
 ·exact decide_eq_true (show b<4294967296 by have:sg 32=2147483648:=rfl;omega)
 ·rfl
end W.Ziv
namespace R
theorem aRQ{y:Rat}(h0:0<=y)(h1:y<=4/5):y*(4/5)<=sn y/\17/25<=cs y:=by
 have q:=bG h0 h1 h0 h1;have m:=aE h0 (show 0<=4/5*(4/5)-y*y by grind);have s:=(xH h0 (show y<=1 by grind)).1;have c:=(Gb h0 (show y<=1 by grind)).1;constructor <;> grind
theorem Tm{y:Rat}(h0:0<=y)(h1:y<=8/5):y/2<=sn y+wI:=by
 obtain⟨a,b⟩:=aRQ (y:=y/2) (by grind) (by grind);have d:=Cn (x:=y/2) (by rw[aY];grind);rw[show 2*(y/2)=y by grind,aY]at d;have m:=bG (show 0<=y/2*(4/5) by grind) a (show(0:Rat)<=17/25 by grind) b;grind
theorem Ej{m:Rat}(h0:0<=m)(h1:m<=pi/2):(pi/2-m)/2<=cs m+2*nS:=by
 obtain⟨p1,p2⟩:=eY;have e1:=wR;have e0:=pA;have t:=aKO (x:=-m) (by rw[aY];grind);rw[yW,aY]at t;have l:=Tm (y:=-m+pi/2) (by grind) (by grind);grind
theorem aRO{s t:Rat}(hs:-(pi/2)<=s)(ht:t<=pi/2)(Qf:s<=t):(t-s)*(t-s)/8-16*nS<=sn t-sn s:=by
 obtain⟨p1,p2⟩:=eY;have e1:=wR;have e0:=pA;have e2:=Bk;obtain⟨d,hd⟩:∃d,d=(t-s)/2:=⟨_,rfl⟩;obtain⟨m,hm⟩:∃m,m=(t+s)/2:=⟨_,rfl⟩;have d0:0<=d:=by grind
 have d1:d<=8/5:=by grind
 have a1:=Mf (x:=m) (y:=d) (by rw[aY];grind) (by rw[aY];grind);have a2:=Mf (x:=m) (y:=-d) (by rw[aY];grind) (by rw[aY];grind);rw[show m+d=t by grind,aY]at a1;rw[show m+-d=s by grind,yW,vI,aY]at a2;have l:=Tm d0 d1;have c:d/2<=cs m+2*nS:=by
  by_cases h:0<=m
  ·have:=Ej h (by grind);grind
  ·have:=Ej (m:=-m) (by grind) (by grind);rw[yW]at this;grind
 have cb:=Oj (x:=m) (by rw[aY];grind);have sb:=Mg (x:=d) (by rw[aY];grind);rw[aY]at cb sb;have k:=bG (show 0<=d/2 by grind) c (show 0<=d/2 by grind) l;have q1:=aE (show 0<=2*nS by grind) (show 0<=2-sn d by grind);have q2:=aE (show 0<=wI by grind) (show 0<=2-cs m by grind);have q3:=aE (show 0<=2*nS by grind) (show 0<=1-wI by grind);have e:(t-s)*(t-s)/8=d/2*(d/2)*2:=by rw[hd];grind
 rw[e];generalize cs m=C at *;generalize sn d=S at *;generalize sn m=A at *;generalize cs d=B at *;generalize sn t=T at *;generalize sn s=U at *;generalize d/2*(d/2)=D at *;clear e hd hm c l hs ht Qf d0 d1;grind
theorem aRP{y:Rat}(h0:0<=y)(h1:y<=3):y/400<=sn y+16*nS:=by
 obtain⟨p1,p2⟩:=eY;have e1:=wR;have e0:=pA;have e2:=Bk
 by_cases h:y<=8/5
 ·have:=Tm h0 h;grind
 ·have l:=Tm (y:=y/2) (by grind) (by grind);have c:=Ej (m:=y/2) (by grind) (by grind);have d:=Cn (x:=y/2) (by rw[aY];grind);rw[show 2*(y/2)=y by grind,aY]at d;have k:=bG (show(0:Rat)<=39/100 by grind) (show 39/100<=sn (y/2) by grind) (show(0:Rat)<=3/100 by grind) (show 3/100<=cs (y/2) by grind);grind
theorem aRG{s t:Rat}(hs:-(3/2)<=s)(ht:t<=3/2)(Qf:s<=t):(t-s)/400-17*nS<=sn t*cs s-cs t*sn s:=by
 have e1:=wR;have e0:=pA;have a:=Mf (x:=t) (y:=-s) (by rw[aY];grind) (by rw[aY];grind);rw[yW,vI,aY]at a;have l:=aRP (y:=t+-s) (by grind) (by grind);grind
end R
namespace R
theorem aAJ{x:Rat}{k:Int}(hx:ab x<=8/5)(hk:ab (x-(k:Rat)*(pi/2))<=4/5):ab (Sf x k-sn x)<=nS/\ab (Cf x k-cs x)<=nS:=by
 obtain⟨p1,p2⟩:=eY;have e0:=uS;rw[aY]at hx hk;have k1:(k:Rat)<2:=by
  refine Rat.not_le.1 fun hn=>?_
  have:=bG (show(0:Rat)<=2 by grind) hn (show(0:Rat)<=3/2 by grind) (show 3/2<=pi/2 by grind);grind
 have k2:-2<(k:Rat):=by
  refine Rat.not_le.1 fun hn=>?_
  have:=bG (show(0:Rat)<=2 by grind) (show 2<=-(k:Rat) by grind) (show(0:Rat)<=3/2 by grind) (show 3/2<=pi/2 by grind);grind
 have k1:k<2:=by exact_mod_cast k1
 have k2:-2<k:=by have:((-2:Int):Rat)<(k:Rat):=by { rw[show((-2:Int):Rat)=-2 from rfl];exact k2 };exact Rat.intCast_lt_intCast.1 this
 have z0:x-((0:Int):Rat)*(pi/2)=x:=by rw[show((0:Int):Rat)=0 from rfl];grind
 have b1:Sf x 0=sn x:=by unfold Sf rs;rw[if_pos (show(0:Int)%4=0 from rfl),z0]
 have b2:Cf x 0=cs x:=by unfold Cf rc;rw[if_pos (show(0:Int)%4=0 from rfl),z0]
 have bFD:k=-1\/k=0\/k=1:=by omega
 rcases bFD with rfl |rfl |rfl
 ·have s:=He (x:=x) (k:=-1) (by rw[aY];grind);rw[show(-1:Int)+1=0 from rfl,b1,b2,aY,aY]at s;rw[aY,aY];grind
 ·rw[b1,b2,aY,aY];grind
 ·have s:=He (x:=x) (k:=0) (by rw[z0,aY];grind);rw[show(0:Int)+1=1 from rfl,b1,b2]at s;exact s
theorem aKI{x:Rat}{k:Int}(h0:0<=x)(h1:x<=pi)(hk:ab (x-(k:Rat)*(pi/2))<=4/5):ab (Cf x k+sn (x-pi/2))<=nS:=by
 obtain⟨p1,p2⟩:=eY;have e0:=uS;rw[aY]at hk;have k1:(k:Rat)<3:=by
  refine Rat.not_le.1 fun hn=>?_
  have:=bG (show(0:Rat)<=3 by grind) hn (show(0:Rat)<=157/100 by grind) (show 157/100<=pi/2 by grind);grind
 have k2:-1<(k:Rat):=by
  refine Rat.not_le.1 fun hn=>?_
  have:=bG (show(0:Rat)<=1 by grind) (show 1<=-(k:Rat) by grind) (show(0:Rat)<=157/100 by grind) (show 157/100<=pi/2 by grind);grind
 have k1:k<3:=by exact_mod_cast k1
 have k2:-1<k:=by have:((-1:Int):Rat)<(k:Rat):=by { rw[show((-1:Int):Rat)=-1 from rfl];exact k2 };exact Rat.intCast_lt_intCast.1 this
 have z1:x-((1:Int):Rat)*(pi/2)=x-pi/2:=by rw[show((1:Int):Rat)=1 from rfl];grind
 have b:Cf x 1=-sn (x-pi/2):=by unfold Cf rc;rw[if_neg (by decide),if_pos (show(1:Int)%4=1 from rfl),z1]
 have bFD:k=0\/k=1\/k=2:=by omega
 rcases bFD with rfl |rfl |rfl
 ·have s:=(He (x:=x) (k:=0) (by rw[aY];grind)).2;rw[show(0:Int)+1=1 from rfl,b,aY]at s;rw[aY];grind
 ·rw[b,aY];grind
 ·have s:=(He (x:=x) (k:=1) (by rw[z1,aY];grind)).2;rw[show(1:Int)+1=2 from rfl,b,aY]at s;rw[aY];grind
theorem Ks{s t V U:Rat}(hs:-(pi/2)<=s)(ht:t<=pi/2)(Qf:pz (-1080)<=t-s)(hV:ab (V-sn s)<=nS)(hU:ab (U-sn t)<=nS):V<=U:=by
 have w0:=dA (-1080);have r:=aRO hs ht (by grind);have q:=bG (cEA w0) Qf (cEA w0) Qf;rw[<-iU]at q;have e:=Cw (n:=2170) (by decide);rw[aLV]at e;have e:nS<=pz (-2170):=e;have d:=fU (-2160) (n:=10) (c:=1024) (by norm_cast);rw[show(-2160:Int)-((10:Nat):Int)=-2170 by decide]at d;have q:pz (-2160)<=(t-s)*(t-s):=q;rw[aY]at hV hU;grind
theorem aLS{s t V U S C T D:Rat}(hs:-(3/2)<=s)(ht:t<=3/2)(Qf:pz (-1080)<=t-s)(hS:ab (S-sn s)<=nS)(hC:ab (C-cs s)<=nS)(hT:ab (T-sn t)<=nS)(hD:ab (D-cs t)<=nS)(hV:V*C=S)(hU:U*D=T):V<=U:=by
 obtain⟨p1,p2⟩:=eY;have w0:=dA (-1080);have e0:=uS;have e1:=wR;have e2:=Bk;have r:=aRG hs ht (by grind);have e:=Cw (n:=1100) (by decide);rw[aLV]at e;have e:nS<=pz (-1100):=e;have d:=fU (-1080) (n:=20) (c:=1048576) (by norm_cast);rw[show(-1080:Int)-((20:Nat):Int)=-1100 by decide]at d;have pos:∀{z:Rat},-(3/2)<=z->z<=3/2->1/40<=cs z:=by
  intro z z1 z2
  by_cases h:0<=z
  ·have:=Ej h (by grind);grind
  ·have:=Ej (m:=-z) (by grind) (by grind);rw[yW]at this;grind
 have c1:=pos hs (by grind);have c2:=pos (z:=t) (by grind) ht;have b1:=Mg (x:=s) (by rw[aY];grind);have b2:=Mg (x:=t) (by rw[aY];grind);have b3:=Oj (x:=s) (by rw[aY];grind);have b4:=Oj (x:=t) (by rw[aY];grind);rw[aY]at hS hC hT hD b1 b2 b3 b4;generalize sn s=A at *;generalize cs s=B at *;generalize sn t=E at *;generalize cs t=F at *;have C0:0<C:=by grind
 have D0:0<D:=by grind
 have m1:=aE (show 0<=nS-(T-E) by grind) (show 0<=2-C by grind);have m2:=aE (show 0<=nS+(T-E) by grind) (show 0<=C by grind);have m3:=aE (show 0<=nS+(C-B) by grind) (show 0<=2-E by grind);have m4:=aE (show 0<=nS+(C-B) by grind) (show 0<=2+E by grind);have m5:=aE (show 0<=nS-(C-B) by grind) (show 0<=2-E by grind);have m6:=aE (show 0<=nS-(C-B) by grind) (show 0<=2+E by grind);have n1:=aE (show 0<=nS-(S-A) by grind) (show 0<=D by grind);have n3:=aE (show 0<=nS-(D-F) by grind) (show 0<=2-A by grind);have n4:=aE (show 0<=nS-(D-F) by grind) (show 0<=2+A by grind);have n5:=aE (show 0<=nS+(D-F) by grind) (show 0<=2-A by grind);have n6:=aE (show 0<=nS+(D-F) by grind) (show 0<=2+A by grind);have key:0<=T*C-D*S:=by
  have u1:E*C-2*nS<=T*C:=by
   have:=aE (show 0<=nS+(T-E) by grind) (show 0<=C by grind);have:=aE (show 0<=nS by grind) (show 0<=2-C by grind);grind
  have u2:E*B-4*nS<=E*C:=by grind
  have u3:D*S<=D*A+2*nS:=by
   have:=aE (show 0<=nS by grind) (show 0<=2-D by grind);grind
  have u4:D*A<=F*A+4*nS:=by grind
  grind
 have f:T*C-D*S=(U-V)*(C*D):=by rw[<-hV,<-hU];grind
 rw[f]at key;have cd:=cEK C0 D0;refine Rat.not_lt.1 fun hn=>?_
 have:=cEK (show 0<V-U by grind) cd;grind
end R
set_option linter.unusedSimpArgs false
namespace W.Ziv
open Go AI M W W.Qy
def aPU(fn:Int)(q:Rat):Rat:=if fn<=3 then q else q*R.pi
def aCU(fn:Int)(q V:Rat):Prop:=if fn=2\/fn=5 then R.ab (V+R.sn (aPU fn q-R.pi/2))<=R.nS else if fn=3 then ∃S C,R.ab (S-R.sn q)<=R.nS/\R.ab (C-R.cs q)<=R.nS/\V*C=S else R.ab (V-R.sn (aPU fn q))<=R.nS
def aDC(fn:Int)(q:Rat):Prop:=if fn=1\/fn=3 then -(3/2)<=q/\q<=3/2 else if fn=2 then 0<=q/\q<=3 else if fn=4 then -(1/2)<=q/\q<=1/2 else 0<=q/\q<=1
theorem bGK{fn:Int}(h:1<=fn/\fn<=5):fn=1\/fn=2\/fn=3\/fn=4\/fn=5:=by omega
theorem aKH{fn:Int}{q q' V V':Rat}(hf:1<=fn/\fn<=5)(h:aDC fn q)(h':aDC fn q')(hd:R.pz (-1074)<=q'-q)(hv:aCU fn q V)(Nm:aCU fn q' V'):if fn=2\/fn=5 then V'<=V else V<=V':=by
 obtain⟨p1,p2⟩:=R.eY;have w0:=R.dA (-1074);have w1:=R.cF (show(-1080:Int)<=-1074 by decide);have ng:∀A B:Rat,R.ab (A+B)<=R.nS->R.ab (-A-B)<=R.nS:=fun A B h=>by rw[<-R.iV,show -(-A-B)=A+B by grind];exact h
 rcases bGK hf with rfl |rfl |rfl |rfl |rfl
 ·unfold aDC at h h';unfold aCU aPU at hv Nm;simp only[show ¬((1:Int)=2\/(1:Int)=5) by decide,show(1:Int)=1\/(1:Int)=3 by decide,if_true,if_false,show ¬(1:Int)=3 by decide,show(1:Int)<=3 by decide]at *;exact R.Ks (by grind) (by grind) (by grind) hv Nm
 ·unfold aDC at h h';unfold aCU aPU at hv Nm;simp only[show((2:Int)=2\/(2:Int)=5) by decide,show ¬((2:Int)=1\/(2:Int)=3) by decide,if_true,if_false,show(2:Int)<=3 by decide]at *;have:=R.Ks (by grind) (by grind) (by grind) (ng _ _ hv) (ng _ _ Nm);grind
 ·unfold aDC at h h';unfold aCU at hv Nm;simp only[show ¬((3:Int)=2\/(3:Int)=5) by decide,show(3:Int)=1\/(3:Int)=3 by decide,if_true,if_false]at *;obtain⟨S,C,a1,a2,a3⟩:=hv;obtain⟨T,D,b1,b2,b3⟩:=Nm;exact R.aLS h.1 h'.2 (by grind) a1 a2 b1 b2 a3 b3
 ·unfold aDC at h h';unfold aCU aPU at hv Nm;simp only[show ¬((4:Int)=2\/(4:Int)=5) by decide,show ¬((4:Int)=1\/(4:Int)=3) by decide,show ¬(4:Int)=2 by decide,show ¬(4:Int)=3 by decide,show ¬(4:Int)<=3 by decide,if_true,if_false]at *;have m1:=R.aE (show 0<=q+1/2 by grind) (show 0<=R.pi by grind);have m2:=R.aE (show 0<=1/2-q' by grind) (show 0<=R.pi by grind);have m3:=R.aE (show 0<=q'-q by grind) (show 0<=R.pi-1 by grind);exact R.Ks (by grind) (by grind) (by grind) hv Nm
 ·unfold aDC at h h';unfold aCU aPU at hv Nm;simp only[show((5:Int)=2\/(5:Int)=5) by decide,show ¬((5:Int)=1\/(5:Int)=3) by decide,show ¬(5:Int)=2 by decide,show ¬(5:Int)=4 by decide,show ¬(5:Int)<=3 by decide,if_true,if_false]at *;have m1:=R.aE (show 0<=q by grind) (show 0<=R.pi by grind);have m2:=R.aE (show 0<=1-q' by grind) (show 0<=R.pi by grind);have m3:=R.aE (show 0<=q'-q by grind) (show 0<=R.pi-1 by grind);have:=R.Ks (by grind) (by grind) (by grind) (ng _ _ hv) (ng _ _ Nm);grind
theorem aWX{fn x:Int}(hF:Fin 64 x)(hf:1<=fn/\fn<=5)(h:aDC fn (R.qz (bN.gX 64 x))):aCU fn (R.qz (bN.gX 64 x)) (vZ fn x):=by
 obtain⟨p1,p2⟩:=R.eY;have e0:=R.uS;have e2:=R.Bk
 by_cases c:fn<=3
 ·have hn:=Uh (aOC hF);have hq:R.qz (bA.qW x)=R.qz (bN.gX 64 x):=rfl;rw[hq]at hn;unfold R.rA at hn;have hk:R.ab (R.qz (bN.gX 64 x)-(kx x:Rat)*(R.pi/2))<=4/5:=cDY hn (by grind);unfold vZ vx R.fv;rw[aP,hq];generalize R.qz (bN.gX 64 x)=q at *;unfold aDC at h;unfold aCU aPU;have h3:fn=1\/fn=2\/fn=3:=by omega
  rcases h3 with rfl |rfl |rfl
  ·simp only[show ¬((1:Int)=2\/(1:Int)=5) by decide,show(1:Int)=1\/(1:Int)=3 by decide,if_true,if_false,show ¬(1:Int)=3 by decide,show(1:Int)<=3 by decide]at *;exact(R.aAJ (by rw[R.aY];grind) hk).1
  ·simp only[show((2:Int)=2\/(2:Int)=5) by decide,show ¬((2:Int)=1\/(2:Int)=3) by decide,show ¬(2:Int)=1 by decide,if_true,if_false,show(2:Int)<=3 by decide]at *;exact R.aKI h.1 (by grind) hk
  ·simp only[show ¬((3:Int)=2\/(3:Int)=5) by decide,show(3:Int)=1\/(3:Int)=3 by decide,show ¬(3:Int)=1 by decide,show ¬(3:Int)=2 by decide,if_true,if_false]at *;obtain⟨a,b⟩:=R.aAJ (x:=q) (by rw[R.aY];grind) hk;have c1:1/40<=R.cs q:=by
    by_cases h0:0<=q
    ·have:=R.Ej h0 (by grind);grind
    ·have:=R.Ej (m:=-q) (by grind) (by grind);rw[R.yW]at this;grind
   refine⟨_,_,a,b,cKP ?_⟩;rw[R.aY]at b;grind
 ·have h5:fn=4\/fn=5:=by omega
  obtain⟨f1,f2⟩:=aHD (bS.pK x);have rv:=aRU (bS.pK x);have hq:R.qz (bS.pK x)=R.qz (bN.gX 64 x):=rfl;rw[hq]at f1 f2 rv;unfold vZ vT;rw[aW];generalize bS.uN (bS.pK x)=K at *;generalize R.qz (bS.Eb (bS.pK x))=r at *;generalize R.qz (bN.gX 64 x)=q at *;have er:q*R.pi-(K:Rat)*(R.pi/2)=r*R.pi:=by rw[rv];grind
  have m1:=R.aE (show 0<=r+1/4 by grind) (show 0<=R.pi by grind);have m2:=R.aE (show 0<=1/4-r by grind) (show 0<=R.pi by grind);have hk:R.ab (q*R.pi-(K:Rat)*(R.pi/2))<=4/5:=by rw[er,R.aY];grind
  unfold aDC at h;unfold aCU aPU tv;rcases h5 with rfl |rfl
  ·simp only[show ¬((4:Int)=2\/(4:Int)=5) by decide,show ¬((4:Int)=1\/(4:Int)=3) by decide,show ¬(4:Int)=2 by decide,show ¬(4:Int)=3 by decide,show ¬(4:Int)<=3 by decide,if_true,if_false]at *;have n1:=R.aE (show 0<=q+1/2 by grind) (show 0<=R.pi by grind);have n2:=R.aE (show 0<=1/2-q by grind) (show 0<=R.pi by grind);have a:=(R.aAJ (x:=q*R.pi) (k:=K) (by rw[R.aY];grind) hk).1;unfold R.Sf at a;rw[er]at a;exact a
  ·simp only[show((5:Int)=2\/(5:Int)=5) by decide,show ¬((5:Int)=1\/(5:Int)=3) by decide,show ¬(5:Int)=2 by decide,show ¬(5:Int)=4 by decide,show ¬(5:Int)<=3 by decide,if_true,if_false]at *;have n1:=R.aE (show 0<=q by grind) (show 0<=R.pi by grind);have n2:=R.aE (show 0<=1-q by grind) (show 0<=R.pi by grind);have a:=R.aKI (x:=q*R.pi) (k:=K) (by grind) (by grind) hk;unfold R.Cf at a;rw[er]at a;exact a
end W.Ziv
namespace W
open Go AI M
namespace nB
def E:=mE [(77,cC.aJ),(81,jU.aJ)] 36 [14] [] []
def aF:=bd f139
theorem aX:Nk E aF:=nk
theorem start a b:aI E f139 aF [D.s (sc (int i64 a)),D.s (sc (int u64 b))]=letI K:=bif cC.fB a b then(0:Int)else(2:Int);letI I:=sc (int i64 0);letI A:=aG.fD a;letI N:=int i64 A.fst;letI H:=(A.fst,A.snd.fst,A.snd.snd.fst,A.snd.snd.snd);letI G:=bif cC.fB a b then b%bV.cE A else(0:Int);letI F:=int i64 A.snd.fst;letI C:=int u64 A.snd.snd.snd;letI B:=int i64 A.snd.snd.fst;aO ((a=32\/a=64)/\0<=b/\b<18446744073709551616) (aB (K !=0) (some [D.agg [sc N,sc F,sc B,sc C],D.s I,D.s (sc (int i64 K))]) (aO (aG.vY H) (aB (decide (jU.lR H<bif cC.fB a b then b%bV.cE A else(0:Int))) (some [D.agg [sc N,sc F,sc B,sc C],D.s I,D.s (sc (int i64 6))]) (aB (cC.fB a b&&decide (bV.cE A<=b)) (some [D.agg [sc N,sc F,sc B,sc C],D.s (sc (int i64 (i64.wrap ((0:Int)-i64.wrap G)))),D.s I]) (some [D.agg [sc N,sc F,sc B,sc C],D.s (sc (int i64 (i64.wrap G))),D.s I]))))):=eJ aX
def aEH(f b:Int):Int:=if bV.cE (aG.fD f)<=b then -(b%bV.cE (aG.fD f))else b%bV.cE (aG.fD f)
def sp(f b:Int):Prop×List D:=(((f=32\/f=64)/\0<=b/\b<18446744073709551616)/\cC.fB f b=true/\b%bV.cE (aG.fD f)<=jU.lR (aG.fD f),[aG.bCW (aG.fD f),.s (.sc (.int .i64 (aEH f b))),.s (.sc (.int .i64 0))])
theorem spec:hI E f139 aF (pN .i64) (pN .u64) sp:=by
 rintro f b ⟨h1,hp,hi⟩;refine(start f b).trans ((gP h1).trans ?_);have hs:0<bV.cE (aG.fD f)/\bV.cE (aG.fD f)<=9223372036854775808:=by unfold bV.cE;split <;> omega
 have m0:=cHP b (show bV.cE (aG.fD f)≠0 by omega);have m1:=cHQ b hs.1;rw[hp,cond_true,cond_true,gF rfl,gP (cN.Cl h1.1),aL (Int.not_lt.2 hi),cBV];unfold sp aEH
 by_cases c:bV.cE (aG.fD f)<=b
 ·rw[aQ c,if_pos c,wrap_i64 (n:=b%bV.cE (aG.fD f)),wrap_i64,Int.zero_sub];rfl
 ·rw[aL c,if_neg c,wrap_i64];rfl
def aJ:dK:=orc2 (pN .i64) (pN .u64) sp
theorem ok:OK 139 aJ:=(fJ E aF (aA cC.ok (aA jU.ok aD)) func139).nF rfl spec
end nB
end W
namespace W.Ziv
open Go AI M W W.Qy
theorem Tr{f b:Int}(hf:f=32\/f=64)(hb:0<=b/\b<2*sg f):nB.aEH f b=ord f b:=by
 unfold nB.aEH ord;rw[(Fh hf).1,tL hb]
 by_cases c:b<sg f
 ·rw[aP,if_pos c,if_pos c]
 ·rw[aW,if_neg c,if_neg c];omega
def aDG(f Q:Int)(V:Rat):Prop:=aUV f Q V\/(V=0/\(Q=0\/Q=sg f))
theorem Ch.mono{f Q Q':Int}{V V':Rat}(hf:f=32\/f=64)(h:Ch f Q V)(h':Ch f Q' V')(hV:V<=V'):Q<=Q':=by
 obtain⟨a,c,h0,h1,h2,rfl,e1⟩:=h;obtain⟨a',c',bIQ,Yl,aNY,rfl,e2⟩:=h';rw[<-e2];exact qD hf h0 (cDY h1 (cDY hV aNY))
theorem aDG.mono{f Q Q':Int}{V V':Rat}(hf:f=32\/f=64)(h:aDG f Q V)(h':aDG f Q' V')(hV:V<=V'):ord f Q<=ord f Q':=by
 have hs:0<sg f:=by unfold sg;split <;> omega
 unfold ord;rcases h with (h |h) |⟨rfl,h⟩ <;> rcases h' with (h' |h') |⟨rfl,h'⟩
 ·have b1:=h.bd hf;have b2:=h'.bd hf;have m:=h.mono hf h' hV;rw[aW,aW];exact m
 ·have:=h.pos;have:=h'.pos;grind
 ·have:=h.pos;grind
 ·have b1:=h.bd hf;have b2:=h'.bd hf;rw[aP,aW];omega
 ·have b1:=h.bd hf;have b2:=h'.bd hf;have m:=h'.mono hf h (show -V'<=-V by grind);rw[aP,aP];omega
 ·have b1:=h.bd hf;rw[aP];split <;> omega
 ·have b2:=h'.bd hf;rw[if_pos (show Q'<sg f by omega)];split <;> omega
 ·have:=h'.pos;grind
 ·split <;> split <;> omega
theorem aDG.bd{f Q:Int}{V:Rat}(hf:f=32\/f=64)(h:aDG f Q V):(0<=Q/\Q<2*sg f)/\Q%sg f<=iN.jV (uW.vB f):=by
 have hs:0<sg f:=by unfold sg;split <;> omega
 have hi:0<=iN.jV (uW.vB f):=by rcases hf with rfl |rfl <;> decide
 have key:0<=Q/\Q<2*sg f/\(if Q<sg f then Q else Q-sg f)<=iN.jV (uW.vB f):=by
  rcases h with (h |h) |⟨_,rfl |rfl⟩
  ·have b:=h.bd hf;rw[aW];omega
  ·have b:=h.bd hf;rw[aP];omega
  ·rw[if_pos hs];omega
  ·rw[aP];omega
 exact⟨⟨key.1,key.2.1⟩,by rw[tL ⟨key.1,key.2.1⟩];exact key.2.2⟩
theorem Lb{f b:Int}(hf:f=32\/f=64)(hb:0<=b/\b<2*sg f)(h:b%sg f=0):bN.gX f b=(0,0)/\ord f b=0:=by
 have Fi:sg 32=2147483648:=rfl;have To:sg 64=9223372036854775808:=rfl;rw[tL hb]at h;have h2:b=0\/b=sg f:=by split at h <;> omega
 rcases hf with rfl |rfl <;> rcases h2 with rfl |rfl <;> exact⟨by decide +kernel,by decide +kernel⟩
theorem La{f b:Int}(hf:f=32\/f=64)(hb:0<=b/\b<2*sg f)(hi:b%sg f<iN.jV (uW.vB f)):ord f (iS.jY f (bN.gX f b))=ord f b:=by
 have hs:0<sg f:=by unfold sg;split <;> omega
 by_cases c:b%sg f=0
 ·obtain⟨h1,h2⟩:=Lb hf hb c;rw[h1,Xt rfl,h2];unfold ord;rw[if_pos hs]
 ·have:=cHP b (show sg f≠0 by omega);rw[aHI ⟨hf,hb,by omega,hi⟩]
theorem aMA{f u v:Int}(hf:f=32\/f=64)(hu:0<=u/\u<2*sg f)(hv:0<=v/\v<2*sg f)(iu:u%sg f<iN.jV (uW.vB f))(iv:v%sg f<iN.jV (uW.vB f))(h:ord f u<=ord f v):R.qz (bN.gX f u)<=R.qz (bN.gX f v):=by
 refine Classical.byContradiction fun hn=>?_
 have m:=Hs hf (show R.qz (bN.gX f v)<=R.qz (bN.gX f u) by grind);rw[La hf hu iu,La hf hv iv]at m;have e:ord f u=ord f v:=by omega
 have:u=v\/(u%sg f=0/\v%sg f=0):=by
  rw[tL hu,tL hv];unfold ord at e;split at e <;> split at e <;> simp_all <;> omega
 rcases this with rfl |⟨z1,z2⟩
 ·exact hn (cFB)
 ·rw[(Lb hf hu z1).1,(Lb hf hv z2).1]at hn;exact hn cFB
end W.Ziv
namespace W.Ziv
open Go AI M W W.Qy
theorem aEN{p:Int×Int}{g:Int}(h:g<=p.2):R.qz p=((p.1*((2^(p.2-g).toNat:Nat):Int):Int):Rat)*R.pz g:=by
 unfold R.qz;have e:R.pz p.2=R.pz (p.2-g)*R.pz g:=by rw[<-R.iU,Int.sub_add_cancel]
 have n:R.pz (p.2-g)=((2^(p.2-g).toNat:Nat):Rat):=by
  have:=R.lP (p.2-g).toNat;rwa [Int.toNat_of_nonneg (by omega)]at this
 rw[e,n,cKB,cKC,cKA]
theorem aVP{f b:Int}(hf:f=32\/f=64)(hb:0<=b/\b<2*sg f)(hi:b%sg f<iN.jV (uW.vB f)):-1074<=(bN.gX f b).2:=by
 obtain⟨e1,e2⟩:=Fh hf;obtain⟨_,_,h1,_⟩:=bN.My hf hb.1 (decide_eq_true (by rw[e1,e2];exact hi));unfold bN.gX
 by_cases c:bC.kF f b=0
 ·rw[c,fN];decide
 ·have:=qC (e:=bC.lW f b) c;omega
theorem bXQ{f u v:Int}(hf:f=32\/f=64)(hu:0<=u/\u<2*sg f)(hv:0<=v/\v<2*sg f)(iu:u%sg f<iN.jV (uW.vB f))(iv:v%sg f<iN.jV (uW.vB f))(h:R.qz (bN.gX f u)<R.qz (bN.gX f v)):R.pz (-1074)<=R.qz (bN.gX f v)-R.qz (bN.gX f u):=by
 have a:=aEN (aVP hf hu iu);have b:=aEN (aVP hf hv iv);rw[a,b]at h;rw[a,b];have w0:=R.dA (-1074);generalize (bN.gX f u).1*((2^((bN.gX f u).2 - -1074).toNat:Nat):Int)=A at *;generalize (bN.gX f v).1*((2^((bN.gX f v).2 - -1074).toNat:Nat):Int)=B at *;generalize R.pz (-1074)=w at *;have aTN:(A:Rat)<(B:Rat):=by
  refine Rat.not_le.1 fun hn=>?_
  have:=R.aE (show 0<=(A:Rat)-(B:Rat) by grind) (cEA w0);grind
 have aTN:A<B:=Rat.intCast_lt_intCast.1 aTN;have h1:((A+1:Int):Rat)<=(B:Rat):=Rat.intCast_le_intCast.2 aTN;rw[cLT,show((1:Int):Rat)=1 from rfl]at h1;have:=R.aE (show 0<=(B:Rat)-((A:Rat)+1) by grind) (cEA w0);grind
theorem aEW{f:Int}(hf:f=32\/f=64):Ch f (kI.Ee f 1 false) 1/\kI.Ee f 1 true=kI.Ee f 1 false+sg f/\kI.Ee f 0 false=0:=by
 refine⟨⟨(1,0),(1,0),by decide,?_,?_,?_,?_⟩,?_,?_⟩
 ·rw[oP];exact cFB
 ·rw[oP];exact cFB
 all_goals rcases hf with rfl |rfl <;> decide +kernel
theorem aFR:R.ab (R.sn (R.pi/2)-1)<=R.nS:=by
 have h:=R.Mk;have:=R.uS;have:=R.aM (R.sn (R.pi/2)-1);grind
theorem aRD{fn:Int}:aCU fn 0 (if fn=2\/fn=5 then 1 else 0):=by
 have e0:=R.uS;have z:R.ab 0<=R.nS:=by unfold R.ab;rw[if_pos cFB];exact cEA e0
 have a0:aPU fn 0=0:=by unfold aPU;split <;> grind
 have h:=aFR;unfold aCU;rw[a0]
 by_cases c:fn=2\/fn=5
 ·rw[if_pos c,if_pos c,show(0:Rat)-R.pi/2=-(R.pi/2) by grind,R.vI];rw[R.aY]at h ⊢;grind
 ·rw[if_neg c,if_neg c]
  by_cases c3:fn=3
  ·rw[if_pos c3];exact⟨0,1,by rw[R.Tk,show(0:Rat)-0=0 by grind];exact z,by rw[R.Vg,show(1:Rat)-1=0 by grind];exact z,by grind⟩
  ·rw[if_neg c3,R.Tk,show(0:Rat)-0=0 by grind];exact z
theorem Tc{fn:Int}{q V:Rat}(h:(fn=4/\q=1/2/\V=1)\/(fn=4/\q=-(1/2)/\V=-1)\/(fn=5/\q=1/2/\V=0)\/(fn=5/\q=1/\V=-1)):aCU fn q V:=by
 have h1:=aFR;have e0:=R.uS;rw[R.aY]at h1;unfold aCU aPU;rcases h with ⟨rfl,rfl,rfl⟩ |⟨rfl,rfl,rfl⟩ |⟨rfl,rfl,rfl⟩ |⟨rfl,rfl,rfl⟩
 ·rw[if_neg (by decide),if_neg (by decide),if_neg (by decide),show 1/2*R.pi=R.pi/2 by grind,R.aY];grind
 ·rw[if_neg (by decide),if_neg (by decide),if_neg (by decide),show -(1/2)*R.pi=-(R.pi/2) by grind,R.vI,R.aY];grind
 ·rw[if_pos (by decide),if_neg (by decide),show 1/2*R.pi-R.pi/2=0 by grind,R.Tk,R.aY];grind
 ·rw[if_pos (by decide),if_neg (by decide),show 1*R.pi-R.pi/2=R.pi/2 by grind,R.aY];grind
theorem Vq{f fn b:Int}(hb:0<=b/\b<18446744073709551616)(he:fT.oW f fn b=0)(c0:b%sg f=0):aDG f (fC.oL f fn b).1 (if fn=2\/fn=5 then 1 else 0):=by
 obtain⟨hf,hp,f1,f6⟩:=yT he;obtain⟨Fx,hc⟩:=wT hf hb hp;have Uk:0<sg f:=by unfold sg;split <;> omega
 obtain⟨e1,e2⟩:=Fh hf;rw[if_pos c0]at hc;cases hs:(bW.Jd f fn b).2 with
 |false=>have:=(Rm hb he hs).fin.2.2.1;omega
 |true =>
  have eQ:(fC.oL f fn b).1=(bW.Jd f fn b).1:=by
   unfold fC.oL IvClimb.Dj IvClimb.Kd;rw[show iG.Dg 128 65536=true from rfl,if_pos rfl,he,if_neg (by decide),hs,cond_true]
  rw[eQ];obtain⟨o1,o2,o3⟩:=aEW hf
  by_cases c6:fn=6
  ·subst c6;have hQ:(bW.Jd f 6 b).1=b:=by
    unfold bW.Jd lG.Md;rw[aP,aP,if_pos (by decide),aKA.Uy hf (by decide) hp (by rw[e1];exact c0)];rfl
   rw[hQ,if_neg (by decide)];refine .inr ⟨rfl,?_⟩;rw[tL ⟨hb.1,Fx⟩]at c0;split at c0 <;> omega
  ·have hQ:(bW.Jd f fn b).1=if fn=2\/fn=5 then kI.Ee f 1 false else b:=by
    unfold bW.Jd lG.Md;rw[aP,aP]
    by_cases c4:4<=fn
    ·rw[if_pos c4,aKA.Uy hf ⟨c4,by omega⟩ hp (by rw[e1];exact c0)]
     by_cases c5:fn=5
     ·subst c5;rfl
     ·have c2:¬fn=2:=by omega
      simp[c5,c2]
    ·rw[if_neg c4,if_pos hc]
     by_cases c2:fn=2
     ·rw[if_pos c2,if_pos (.inl c2)];rcases hf with rfl |rfl <;> decide +kernel
     ·rw[if_neg c2,aP]
   rw[hQ]
   by_cases c:fn=2\/fn=5
   ·rw[if_pos c,if_pos c];exact .inl (.inl o1)
   ·rw[if_neg c,if_neg c];refine .inr ⟨rfl,?_⟩;rw[tL ⟨hb.1,Fx⟩]at c0;split at c0 <;> omega
theorem aGN{f fn b:Int}(hb:0<=b/\b<18446744073709551616)(he:fT.oW f fn b=0)(h5:fn<=5)(hi:b%sg f<iN.jV (uW.vB f))(hr:aDC fn (R.qz (bN.gX f b)))(hv:(fC.oL f fn b).2.1=true):∃V,aDG f (fC.oL f fn b).1 V/\aCU fn (R.qz (bN.gX f b)) V:=by
 obtain⟨hf,hp,f1,_⟩:=yT he;have bVT:1<=fn/\fn<=5:=⟨f1,h5⟩;obtain⟨Fx,hc⟩:=wT hf hb hp;have Uk:0<sg f:=by unfold sg;split <;> omega
 have aFH:=cHP b (show sg f≠0 by omega);obtain⟨e1,e2⟩:=Fh hf;cases hs:(bW.Jd f fn b).2 with
 |false =>
  have hn:=Rm hb he hs;obtain⟨w1,w2⟩:=aDH hn.fin;have a:=Ls hb he hs hv;rw[<-w2]at hr ⊢;exact⟨_,.inl a,aWX w1 bVT hr⟩
 |true =>
  have eQ:(fC.oL f fn b).1=(bW.Jd f fn b).1:=by
   unfold fC.oL IvClimb.Dj IvClimb.Kd;rw[show iG.Dg 128 65536=true from rfl,if_pos rfl,he,if_neg (by decide),hs,cond_true]
  rw[eQ];obtain⟨o1,o2,o3⟩:=aEW hf
  by_cases c0:b%sg f=0
  ·have:=Vq hb he c0;rw[eQ]at this;rw[(Lb hf ⟨hb.1,Fx⟩ c0).1,show R.qz (0,0)=0 from R.oG rfl];exact⟨_,this,aRD⟩
  ·
   have c12:dM.lT f b=1\/dM.lT f b=2:=by
    rw[if_neg c0,if_pos hi]at hc;split at hc
    ·exact .inl hc
    ·exact .inr hc
   have ho:=aKA.aFA hf hb.1 (by rw[e1];omega);unfold bW.Jd lG.Md at hs ⊢;rw[aP,aP]at hs ⊢
   by_cases c4:4<=fn
   ·rw[if_pos c4,aKA.aOG hf ⟨c4,by omega⟩ hp (by rw[e1];omega) (by rw[e1,e2];exact hi)]at hs ⊢;cases hx:(fL.Bj fn (bN.gX f b)).2.2 with
    |false=>rw[hx]at hs;cases hs
    |true =>
     rw[if_pos rfl];generalize hn:bN.gX f b=n at *;obtain⟨m,e⟩:=n;have ho:m%2=1:=ho;have q:R.qz (m,e)=(m:Rat)*R.pz e:=rfl;have he:-1<=e:=by
      refine Classical.byContradiction fun hn=>?_
      have g1:¬0<=e:=by omega
      have g2:¬e=-1:=by omega
      have bGG:fn=4\/fn=5:=by omega
      rcases bGG with rfl |rfl <;> simp[fL.Bj,g1,g2]at hx
     have hz:R.qz (m,-1)=(m:Rat)/2:=by
      have:=R.mP 0;rw[R.eB]at this;show(m:Rat)*R.pz (-1)=_;have h2:R.pz (-1)*2=1:=this;grind
     unfold aDC at hr
     by_cases ce:e=-1
     ·subst ce;rw[hz]at hr ⊢;have bGG:fn=4\/fn=5:=by omega
      rcases bGG with rfl |rfl
      ·rw[if_neg (by decide),if_neg (by decide),if_pos rfl]at hr;have m1:m<=1:=Rat.intCast_le_intCast.1 (by rw[show((1:Int):Rat)=1 from rfl];grind);have m2:-1<=m:=Rat.intCast_le_intCast.1 (by rw[show((-1:Int):Rat)=-1 from rfl];grind);have m3:m=1\/m=-1:=by omega
       rcases m3 with rfl |rfl
       ·exact⟨1,.inl (.inl o1),Tc (.inl ⟨rfl,rfl,rfl⟩)⟩
       ·refine⟨-1,.inl (.inr ?_),Tc (.inr (.inl ⟨rfl,by rw[show((-1:Int):Rat)=-1 from rfl];grind,rfl⟩))⟩;show Ch f (kI.Ee f 1 true-sg f) (- -1);rw[o2,cNT,show(- -1:Rat)=1 by grind];exact o1
      ·rw[if_neg (by decide),if_neg (by decide),if_neg (by decide)]at hr;have m1:m<=2:=Rat.intCast_le_intCast.1 (by rw[show((2:Int):Rat)=2 from rfl];grind);have m2:0<=m:=Rat.intCast_le_intCast.1 (by rw[show((0:Int):Rat)=0 from rfl];grind);obtain rfl:m=1:=by omega
       exact⟨0,.inr ⟨rfl,.inl o3⟩,Tc (.inr (.inr (.inl ⟨rfl,rfl,rfl⟩)))⟩
     ·have e0:0<=e:=by omega
      have pe:=R.cF e0;rw[R.eB]at pe;have bGG:fn=4\/fn=5:=by omega
      rcases bGG with rfl |rfl
      ·rw[if_neg (by decide),if_neg (by decide),if_pos rfl,q]at hr;exfalso
       by_cases mp:0<m
       ·have:((1:Int):Rat)<=(m:Rat):=Rat.intCast_le_intCast.2 mp;rw[show((1:Int):Rat)=1 from rfl]at this;have:=R.bG (show(0:Rat)<=1 by grind) this (show(0:Rat)<=1 by grind) pe;grind
       ·have:(m:Rat)<=((-1:Int):Rat):=Rat.intCast_le_intCast.2 (by omega);rw[show((-1:Int):Rat)=-1 from rfl]at this;have:=R.bG (show(0:Rat)<=1 by grind) (show 1<=-(m:Rat) by grind) (show(0:Rat)<=1 by grind) pe;grind
      ·rw[if_neg (by decide),if_neg (by decide),if_neg (by decide),q]at hr;have mp:0<m:=by
        refine Classical.byContradiction fun hn=>?_
        have:(m:Rat)<=((-1:Int):Rat):=Rat.intCast_le_intCast.2 (by omega);rw[show((-1:Int):Rat)=-1 from rfl]at this;have:=R.bG (show(0:Rat)<=1 by grind) (show 1<=-(m:Rat) by grind) (show(0:Rat)<=1 by grind) pe;grind
       have m1:((1:Int):Rat)<=(m:Rat):=Rat.intCast_le_intCast.2 mp;rw[show((1:Int):Rat)=1 from rfl]at m1;have bYD:e=0:=by
        refine Classical.byContradiction fun hn=>?_
        have p1:=R.cF (show 1<=e by omega);rw[R.aAY]at p1;have:=R.bG (show(0:Rat)<=1 by grind) m1 (show(0:Rat)<=2 by grind) p1;grind
       subst bYD;rw[R.eB]at hr q;have m2:m<=1:=Rat.intCast_le_intCast.1 (by rw[show((1:Int):Rat)=1 from rfl];grind);obtain rfl:m=1:=by omega
       rw[q,show((1:Int):Rat)*1=1 by rw[show((1:Int):Rat)=1 from rfl];grind];refine⟨-1,.inl (.inr ?_),Tc (.inr (.inr (.inr ⟨rfl,rfl,rfl⟩)))⟩;show Ch f (kI.Ee f 1 true-sg f) (- -1);rw[o2,cNT,show(- -1:Rat)=1 by grind];exact o1
   ·rw[if_neg c4,aP]at hs;cases hs
end W.Ziv
namespace W
open Go AI M
namespace aWR
open Go.RowKit Go.Shelf
attribute [local go_sem] Oper.semAt_some
open IvLadder (Vy rungsF)
def KC(b:Nat)(A B:World):Prop:=∀v,A.cell? ⟨b,0,none⟩=some v->B.cell? ⟨b,0,none⟩=some v
theorem KC.trans{b:Nat}{A B C:World}(h:KC b A B)(k:KC b B C):KC b A C:=fun v hv=>k v (h v hv)
def bTC(s l:Int):List Int:=bif iG.Dg s l then rungsF 17 s l else []
def sp(s l m:Int):Prop×List D:=(True,[.s (.ints .i64 (if m<=0 then []else(bTC s l).take m.toNat))])
theorem aSJ{P:Program}{G:Nat->Option (IntKind×List Int)}{f:FuncId}{α β γ:Type}{p:lB α}{q:lB β}{r:lB γ}{sp:α->β->γ->Prop×List D}(hb:pE P f)
  (h:∀a b c,(sp a b c).1->Contract P G f [p.put a,q.put b,r.put c] (sp a b c).2):lO P G f (orc3 p q r sp):=by
 intro ds g rs ho hg;unfold orc3 at ho;split at ho
 ·rename_i a1 a2 a3;split at ho
  ·rename_i h1 h2 h3;have e:=Option.some.inj ho;have c:=(h _ _ _ (by rw[e];exact hg)).of (ds:=[a1,a2,a3]) rfl (fun i d d' hd Af Y w v hr=>by
    match i with
    |0=>cases hd;cases Af;exact p.le h1 Y w v hr
    |1=>cases hd;cases Af;exact q.le h2 Y w v hr
    |2=>cases hd;cases Af;exact r.le h3 Y w v hr
    |i+3=>simp at hd)
   rw[e]at c;exact⟨c,hb⟩
  ·cases ho
 ·cases ho
end aWR
namespace Gs
def E:=mE [] 6 [] [] []
def aF:=bd f187
theorem aX:Nk E aF:=nk
theorem start a:aI E f187 aF [D.s (sc (int i64 a))]=if i64.wrap (a-1)<0 then none else some [D.s (sc (int u64 (u64.wrap ((1:Int)*(↑((2:Nat)^min (i64.wrap (a-1)).toNat 64):Int)))))]:=eJ aX
def bAI(f:Int):Int:=if f=32 then 2147483648 else 9223372036854775808
def sp(f:Int):Prop×List D:=(f=32\/f=64,[.s (.sc (.int .u64 (bAI f)))])
theorem spec:jL E f187 aF (pN .i64) sp:=by
 intro f h;have h:f=32\/f=64:=h;rcases h with rfl |rfl <;> exact(start _).trans rfl
def aJ:dK:=orc1 (pN .i64) sp
theorem ok:OK 187 aJ:=(fJ E aF aD func187).qB rfl spec
end Gs
namespace aWU
def E:=mE [(139,nB.aJ)] 18 [12] [] []
def aF:=bd f89
theorem aX:Nk E aF:=nk
theorem start a b:aI E f89 aF [D.s (sc (int i64 a)),D.s (sc (int u64 b))]=aO (((a=32\/a=64)/\0<=b/\b<18446744073709551616)/\cC.fB a b=true/\b%bV.cE (aG.fD a)<=jU.lR (aG.fD a)) (some [D.s (sc (int i64 (nB.aEH a b))),D.s (sc (int i64 0))]):=eJ aX
def sp(f b:Int):Prop×List D:=((nB.sp f b).1,[.s (.sc (.int .i64 (nB.aEH f b))),.s (.sc (.int .i64 0))])
theorem spec:hI E f89 aF (pN .i64) (pN .u64) sp:=by
 intro f b h;refine(start f b).trans ((gP h).trans ?_);rfl
def aJ:dK:=orc2 (pN .i64) (pN .u64) sp
theorem ok:OK 89 aJ:=(fJ E aF (aA nB.ok aD) func89).nF rfl spec
end aWU
namespace iA
open Go.RowKit Go.Shelf
attribute [local go_sem] Oper.semAt_some
def Wf(n:Bool)(x:Value):Prop:=if n then x=.iface 192 (.agg #[])else ∃t v,(t=197\/t=199\/t=201)/\x=.iface t v
set_option maxRecDepth 100000 in
set_option maxHeartbeats 1000000 in
theorem aSP {n:Bool} {x:Value} (hx:Wf n x) (w:World):Calls prog 88 #[x] w fun e W'=>e=.returned (.bool n)/\Below w.heap.size w W':=by
 refine(callsIn_wide (n:=1)).1 ?_;refine callsIn_of_wp func88 rfl trivial ?_ rfl;simp only[Tryz.ntmps88,cAJ,cCE,cCF,cNO,cNP,Array.replicate_succ,Array.replicate_zero,cNQ,cNR,cCW,cAM];unfold Wf at hx;cases n with
 |true =>
  obtain rfl:x=.iface 192 (.agg #[]):=hx;have bUB:∀W:World,Sem.run prog (Instr.typeAssert (.iface 192 (.agg #[])) 143 192 true) W=.ok (.tuple #[.agg #[],.bool true]) W:=fun _=>by kernel_rfl
  gi_wp2
  go_ret
  exact⟨rfl,(Below.refl _ w).alloc (bYT _) _⟩
 |false =>
  obtain⟨t,v,ht,rfl⟩:∃t v,(t=197\/t=199\/t=201)/\x=.iface t v:=hx;have bUB:∀W:World,Sem.run prog (Instr.typeAssert (.iface t v) 143 192 true) W=.ok (.tuple #[.agg #[],.bool false]) W:=fun _=>by rcases ht with rfl |rfl |rfl <;> kernel_rfl
  gi_wp2
  go_ret
  exact⟨rfl,(Below.refl _ w).alloc (bYT _) _⟩
theorem aUB{w:World}{n1:Bool}{l1:List Int}{e1:Int}{v:Value}(h:mI O0 w (.agg [.sc (.bool n1),.ints .u64 l1,.sc (.int .i64 e1)]) v) :
  ∃A c,v=.agg #[.bool n1,.slice A l1.length c,.int .i64 e1]:=by
 obtain⟨arr,rfl,hl,hc⟩:=h;obtain⟨a,b,c,he⟩:∃a b c,arr.toList=[a,b,c]:=by
  match arr.toList,hl with
  | [a,b,c],_=>exact⟨a,b,c,rfl⟩
 rw[he]at hc;have h0:=hc 0 _ _ rfl rfl;obtain⟨A,k,hb,_⟩:=hc 1 _ _ rfl rfl;have h2:=hc 2 _ _ rfl rfl;refine⟨A,k,?_⟩;have:arr=#[a,b,c]:=by rw[<-he]
 rw[this,h0.1,hb,h2.1]
theorem Ls(f b:Int)(hf:f=32\/f=64)(hb:0<=b/\b<18446744073709551616){w:World}(hG:GlobOk base.glob O0 w):Calls prog 12 #[.int .i64 f,.int .u64 b] w fun e W'=>∃n A k c x er,e=.returned (.tuple #[.agg #[.bool n,.slice A k c,.int .i64 x],.int .i64 er])/\Below w.heap.size w W':=by
 refine(Gh bC.ok (ds:=[Kr (.int .i64 f),Kr (.int .u64 b)]) (rs:=(bC.sp f b).2) (g:=(bC.sp f b).1) rfl ⟨hf,hb⟩ hG (vs:=[.int .i64 f,.int .u64 b]) rfl (fun i d v hd hv=>?_)).mono ?_
 ·match i with
  |0=>cases hd;cases hv;exact⟨rfl,rfl⟩
  |1=>cases hd;cases hv;exact⟨rfl,rfl⟩
  |i+2=>simp at hd
 ·rintro e w' ⟨tF,rfl,Rw,g,aHW,-,aBT⟩
  match tF,aHW with
  | [v1,v2],_ =>
   have a1:=aBT 0 _ v1 rfl rfl;have a2:=aBT 1 _ v2 rfl rfl;obtain⟨A,c,rfl⟩:=aUB (a1.later El);exact⟨_,A,_,c,_,_,by rw[show v2=_ from a2.1];rfl,Rw⟩
set_option maxRecDepth 100000 in
set_option maxHeartbeats 1000000 in
theorem aRX {f b:Int} (hf:f=32\/f=64) (hb:0<=b/\b<18446744073709551616) (he:kC.Ac f b=0) {w:World} (hG:GlobOk base.glob O0 w):Calls prog 138 #[.int .i64 f,.int .u64 b] w fun e W'=>∃x,e=.returned (.tuple #[x,.int .i64 0])/\Wf (decide (dM.lT f b=4)) x/\Below w.heap.size w W':=by
 refine(callsIn_wide (n:=2)).1 ?_;refine callsIn_of_wp func138 rfl trivial ?_ rfl;simp only[Tryz.ntmps138,cAJ,cCE,cCF,cNO,cNP,Array.replicate_succ,Array.replicate_zero,cNQ,cNR,cCW,cAM];have h1:CallsIn Fence.wide 1 prog 83 #[.int .i64 f,.int .u64 b] w fun e w2=>e=.returned (.tuple #[.int .i64 (dM.lT f b),.int .i64 0])/\Below w.heap.size w w2 :=
  callsIn_wide.2 (by have c:=xT dM.ok (xs:=[.int .i64 f,.int .u64 b]) (ys:=[.int .i64 (dM.lT f b),.int .i64 (kC.Ac f b)]) rfl hb hG (by simp[Value.oneCell']);rw[he]at c;exact c)
 have h2:∀w',Below w.heap.size w w'->CallsIn Fence.wide 1 prog 187 #[.int .i64 f] w' fun e w2=>e=.returned (.int .u64 (Gs.bAI f))/\Below w'.heap.size w' w2:=fun w' pW =>
  callsIn_wide.2 (xT Gs.ok (xs:=[.int .i64 f]) (ys:=[.int .u64 (Gs.bAI f)]) rfl hf (mQ hG pW) (by simp[Value.oneCell']))
 have hr:dM.lT f b=0\/dM.lT f b=1\/dM.lT f b=2\/dM.lT f b=3\/dM.lT f b=4:=by
  unfold dM.lT fO.gE;cases kC.aVO f b with
  |false=>exact .inl rfl
  |true=>simp only[cond_true];split <;> (try split) <;> (try split) <;> (try split) <;> simp
 generalize dM.lT f b=c at *;have h3:∀w',Below w.heap.size w w'->CallsIn Fence.wide 1 prog 12 #[.int .i64 f,.int .u64 b] w' fun e w2=>∃n A k d x er,e=.returned (.tuple #[.agg #[.bool n,.slice A k d,.int .i64 x],.int .i64 er])/\Below w'.heap.size w' w2:=fun w' pW =>
  callsIn_wide.2 (Ls f b hf hb (mQ hG pW))
 rcases hr with rfl |rfl |rfl |rfl |rfl
 all_goals gi_wp2_with (refine⟨trivial,?_⟩;first
  | (gi_at_call 83;refine h1.mono ?_;rintro e w1 ⟨rfl,rW⟩;have aYC:=rW.size)
  | (gi_at_call 187;refine(h2 _ rW).mono ?_;rintro e w2 ⟨rfl,Fx⟩;have aJO:=Fx.size;have Ry:Below w.heap.size w w2:=rW.trans (Fx.mono (by omega)))
  | (gi_at_call 12;refine(h3 _ Ry).mono ?_;rintro e w3 ⟨n,A,k,d,x,er,rfl,xQ⟩;have bOX:=xQ.size;have aFS:Below w.heap.size w w3:=Ry.trans (xQ.mono (by omega))))
 all_goals go_ret2
 ·exact⟨_,rfl,⟨_,_,.inr (.inl rfl),rfl⟩,Ry⟩
 ·exact⟨_,rfl,⟨_,_,.inr (.inr rfl),rfl⟩,aFS.alloc (by omega) _⟩
 ·exact⟨_,rfl,⟨_,_,.inr (.inr rfl),rfl⟩,aFS.alloc (by omega) _⟩
 ·exact⟨_,rfl,⟨_,_,.inl rfl,rfl⟩,Ry⟩
 ·exact⟨_,rfl,rfl,Ry⟩
set_option maxRecDepth 100000 in
set_option maxHeartbeats 1000000 in
theorem aSG {f a b:Int} (hf:f=32\/f=64) (ha:0<=a/\a<18446744073709551616) (hb:0<=b/\b<18446744073709551616) (aFM:kC.Ac f a=0) (aFL:kC.Ac f b=0) {w:World} (hG:GlobOk base.glob O0 w):Calls prog 87 #[.int .i64 f,.int .u64 a,.int .u64 b] w fun e W'=>∃x y,e=.returned (.tuple #[x,y,.int .i64 0])/\Wf (decide (dM.lT f a=4)) x/\Wf (decide (dM.lT f b=4)) y/\Below w.heap.size w W':=by
 refine(callsIn_wide (n:=3)).1 ?_;refine callsIn_of_wp func87 rfl trivial ?_ rfl;simp only[Tryz.ntmps87,cAJ,cCE,cCF,cNO,cNP,Array.replicate_succ,Array.replicate_zero,cNQ,cNR,cCW,cAM];have h1:∀(z:Int) (w':World),Below w.heap.size w w'->(0<=z/\z<18446744073709551616)/\kC.Ac f z=0->CallsIn Fence.wide 2 prog 138 #[.int .i64 f,.int .u64 z] w' fun e w2=>∃x,e=.returned (.tuple #[x,.int .i64 0])/\Wf (decide (dM.lT f z=4)) x/\Below w.heap.size w w2:=fun z w' pW hz=>callsIn_wide.2 ((aRX hf hz.1 hz.2 (mQ hG pW)).mono fun e w2 ⟨x,h1,h2,h3⟩=>⟨x,h1,h2,pW.trans (h3.mono pW.size)⟩)
 have pa:=And.intro ha aFM;have pb:=And.intro hb aFL
 gi_wp2_with (refine⟨trivial,?_⟩;gi_at_call 138;first
  | (have q:=hx;refine(h1 b _ rW pb).mono ?_;rintro e w2 ⟨y,rfl,hy,Fx⟩)
  | (refine(h1 a _ (Below.refl _ _) pa).mono ?_;rintro e w1 ⟨x,rfl,hx,rW⟩))
 all_goals go_ret3
 all_goals exact⟨x,y,rfl,hx,hy,Fx⟩
def yX(f a b:Int):Int:=if dM.lT f a=4\/dM.lT f b=4 then 2 else if nB.aEH f a<nB.aEH f b then -1 else if nB.aEH f b<nB.aEH f a then 1 else 0
structure aCZ(f a b:Int):Prop where
 hf:f=32\/f=64
 ha:0<=a/\a<18446744073709551616
 hb:0<=b/\b<18446744073709551616
 aFM:kC.Ac f a=0
 aFL:kC.Ac f b=0
 bPR:¬dM.lT f a=4->(nB.sp f a).1
 bPQ:¬dM.lT f b=4->(nB.sp f b).1
set_option maxRecDepth 100000 in
set_option maxHeartbeats 1000000 in
theorem aPI {f a b:Int} (h:aCZ f a b) {w:World} (hG:GlobOk base.glob O0 w):Calls prog 35 #[.int .i64 f,.int .u64 a,.int .u64 b] w fun e W'=>e=.returned (.tuple #[.int .i64 (yX f a b),.int .i64 0])/\Below w.heap.size w W':=by
 obtain⟨hf,ha,hb,aFM,aFL,bPR,bPQ⟩:=h;refine(callsIn_wide (n:=4)).1 ?_;refine callsIn_of_wp func35 rfl trivial ?_ rfl;simp only[Tryz.ntmps35,cAJ,cCE,cCF,cNO,cNP,Array.replicate_succ,Array.replicate_zero,cNQ,cNR,cCW,cAM];have h1:CallsIn Fence.wide 3 prog 87 #[.int .i64 f,.int .u64 a,.int .u64 b] w fun e W'=>∃x y,e=.returned (.tuple #[x,y,.int .i64 0])/\Wf (decide (dM.lT f a=4)) x/\Wf (decide (dM.lT f b=4)) y/\Below w.heap.size w W':=callsIn_wide.2 (aSG hf ha hb aFM aFL hG)
 have h2:∀{n:Bool} {x:Value} {w':World},Wf n x->Below w.heap.size w w'->CallsIn Fence.wide 3 prog 88 #[x] w' fun e W'=>e=.returned (.bool n)/\Below w.heap.size w W':=fun hx pW=>callsIn_wide.2 ((aSP hx _).mono fun e w2 ⟨k1,k2⟩=>⟨k1,pW.trans (k2.mono pW.size)⟩)
 have h3:∀(z:Int) {w':World},(nB.sp f z).1->Below w.heap.size w w'->CallsIn Fence.wide 3 prog 89 #[.int .i64 f,.int .u64 z] w' fun e W'=>e=.returned (.tuple #[.int .i64 (nB.aEH f z),.int .i64 0])/\Below w.heap.size w W':=fun z w' hz pW =>
  callsIn_wide.2 ((xT aWU.ok (xs:=[.int .i64 f,.int .u64 z]) (ys:=[.int .i64 (nB.aEH f z),.int .i64 0]) rfl hz (mQ hG pW) (by simp[Value.oneCell'])).mono fun e w2 ⟨k1,k2⟩=>⟨k1,pW.trans (k2.mono pW.size)⟩)
 unfold yX
 by_cases ca:dM.lT f a=4
 ·rw[if_pos (.inl ca)];rw[decide_eq_true ca]at h1
  gi_wp2_with (refine⟨trivial,?_⟩;first
   | (gi_at_call 87;refine h1.mono ?_;rintro e w1 ⟨x,y,rfl,hx,hy,rW⟩)
   | (gi_at_call 88;refine(h2 hx rW).mono ?_;rintro e w2 ⟨rfl,Fx⟩)
   |skip)
  go_ret2
  exact⟨rfl,Fx⟩
 ·by_cases cb:dM.lT f b=4
  ·rw[if_pos (.inr cb)];rw[decide_eq_false ca,decide_eq_true cb]at h1
   gi_wp2_with (refine⟨trivial,?_⟩;first
    | (gi_at_call 87;refine h1.mono ?_;rintro e w1 ⟨x,y,rfl,hx,hy,rW⟩)
    | (have q:=Fx;gi_at_call 88;refine(h2 hy Fx).mono ?_;rintro e w3 ⟨rfl,xQ⟩)
    | (gi_at_call 88;refine(h2 hx rW).mono ?_;rintro e w2 ⟨rfl,Fx⟩))
   go_ret2
   exact⟨rfl,xQ⟩
  ·rw[aP];rw[decide_eq_false ca,decide_eq_false cb]at h1;have k1:=@h3 a;have k2:=@h3 b;have ra:=bPR ca;have rb:=bPQ cb;generalize nB.aEH f a=r at *;generalize nB.aEH f b=s at *
   gi_wp2_with (refine⟨trivial,?_⟩;first
    | (gi_at_call 87;refine h1.mono ?_;rintro e w1 ⟨x,y,rfl,hx,hy,rW⟩)
    | (have q:=Rx;gi_at_call 89;refine(k2 rb Rx).mono ?_;rintro e w5 ⟨rfl,aNS⟩)
    | (have q:=xQ;gi_at_call 89;refine(k1 ra xQ).mono ?_;rintro e w4 ⟨rfl,Rx⟩)
    | (have q:=Fx;gi_at_call 88;refine(h2 hy Fx).mono ?_;rintro e w3 ⟨rfl,xQ⟩)
    | (gi_at_call 88;refine(h2 hx rW).mono ?_;rintro e w2 ⟨rfl,Fx⟩))
   all_goals go_ret2
   all_goals exact⟨rfl,aNS⟩
def sp(f a b:Int):Prop×List D:=(aCZ f a b,[.s (.sc (.int .i64 (yX f a b))),.s (.sc (.int .i64 0))])
def aJ:dK:=orc3 (pN .i64) (pN .u64) (pN .u64) sp
theorem ok:OK 35 aJ:=aWR.aSJ (pM func35 rfl rfl) fun f a b h =>
 Jk (xs:=[.int .i64 f,.int .u64 a,.int .u64 b]) (ys:=[.int .i64 (yX f a b),.int .i64 0]) (fun w hG=>aPI h hG) rfl (fun i d v hd hv=>by
  match i with
  |0=>cases hd;cases hv;exact⟨rfl,fun _ _=>⟨rfl,rfl⟩⟩
  |1=>cases hd;cases hv;exact⟨rfl,fun _ _=>⟨rfl,rfl⟩⟩
  |i+2=>cases hd)
end iA
namespace mY
def E:=mE [(82,gH.aJ)] 22 [18] [] []
def aF:=bd f36
theorem aX:Nk E aF:=nk
theorem start a b:aI E f36 aF [D.s (sc (int i64 a)),D.s (sc (int i64 b))]=aO ((a=32\/a=64)/\(0<=u64.wrap (if i64.wrap ((0:Int)-b)>b then i64.wrap ((0:Int)-b)else b)/\u64.wrap (if i64.wrap ((0:Int)-b)>b then i64.wrap ((0:Int)-b)else b)<18446744073709551616)/\(-4000:Int)<=(-1:Int)/\(-1:Int)<=(2900:Int)) (some [D.s (sc (int u64 (gH.Ju (aG.fD a) (decide (b<0)) (gH.qU (aG.fD a) (u64.wrap (match BinOp.gtr with |BinOp.gtr=>if i64.wrap ((0:Int)-b)>b then i64.wrap ((0:Int)-b)else b |x=>if i64.wrap ((0:Int)-b)<b then i64.wrap ((0:Int)-b)else b)) (-1:Int)))))]):=eJ aX
def Yf(f i:Int):Int:=gH.Ju (aG.fD f) (decide (i<0)) (gH.qU (aG.fD f) (if -i>i then -i else i) (-1))
def sp(f i:Int):Prop×List D:=((f=32\/f=64)/\-100<=i/\i<=100,[.s (.sc (.int .u64 (Yf f i)))])
theorem spec:hI E f36 aF (pN .i64) (pN .i64) sp:=by
 rintro f i ⟨hf,h1,h2⟩;refine(start f i).trans ?_;have e:i64.wrap (0-i)=-i:=by rw[wrap_i64];omega
 have m:0<=(if -i>i then -i else i)/\(if -i>i then -i else i)<18446744073709551616:=by split <;> omega
 rw[e];have w:u64.wrap (if -i>i then -i else i)=(if -i>i then -i else i):=wrap_u64 m.1 m.2;rw[gP ⟨hf,by rw[w];exact m,by decide,by decide⟩];show some [D.s (.sc (.int .u64 (gH.Ju (aG.fD f) (decide (i<0)) (gH.qU (aG.fD f) (u64.wrap (if -i>i then -i else i)) (-1)))))]=_;rw[w];rfl
def aJ:dK:=orc2 (pN .i64) (pN .i64) sp
theorem ok:OK 36 aJ:=(fJ E aF (aA gH.ok aD) func36).nF rfl spec
end mY
namespace Dc
def E:=mE [] 15 [] [] []
def aF:=bd f34
theorem aX:Nk E aF:=nk
theorem start a:aI E f34 aF [D.s (sc (int i64 a))]=letI F:=sc (int i64 1);letI C:=sc (int i64 (-1:Int));letI B:=sc (int i64 0);letI A:=some [D.s F,D.s (sc (int i64 (-3:Int))),D.s (sc (int i64 3))];aB (a==1) A (aB (a==3) A (aB (a==2) (some [D.s C,D.s B,D.s (sc (int i64 6))]) (aB (a==4) (some [D.s F,D.s C,D.s F]) (aB (a==5) (some [D.s C,D.s B,D.s (sc (int i64 2))]) (some [D.s B,D.s B,D.s B]))))):=eJ aX
def aXK(fn:Int):Int×Int×Int:=if fn=1 then(1,-3,3)else if fn=3 then(1,-3,3)else if fn=2 then(-1,0,6)else if fn=4 then(1,-1,1)else if fn=5 then(-1,0,2)else(0,0,0)
def sp(fn:Int):Prop×List D:=(True,[.s (.sc (.int .i64 (aXK fn).1)),.s (.sc (.int .i64 (aXK fn).2.1)),.s (.sc (.int .i64 (aXK fn).2.2))])
theorem spec:jL E f34 aF (pN .i64) sp:=by
 intro fn _;refine(start fn).trans ?_;unfold sp aXK
 by_cases h1:fn=1
 ·rw[cD h1,if_pos h1]
 rw[bJ h1,if_neg h1]
 by_cases h3:fn=3
 ·rw[cD h3,if_pos h3]
 rw[bJ h3,if_neg h3]
 by_cases h2:fn=2
 ·rw[cD h2,if_pos h2]
 rw[bJ h2,if_neg h2]
 by_cases h4:fn=4
 ·rw[cD h4,if_pos h4]
 rw[bJ h4,if_neg h4]
 by_cases h5:fn=5
 ·rw[cD h5,if_pos h5]
 rw[bJ h5,if_neg h5]
def aJ:dK:=orc1 (pN .i64) sp
theorem ok:OK 34 aJ:=(fJ E aF aD func34).qB rfl spec
end Dc
end W
namespace W.Ziv
open Go AI M W W.Qy
theorem Xb{f a:Int}(h:0<=a/\a<2*sg f):0<=a/\a<18446744073709551616:=by
 have:2*sg f<=18446744073709551616:=by unfold sg;split <;> omega
 omega
theorem aFX{f a:Int}(hf:f=32\/f=64)(ha:0<=a/\a<2*sg f):kC.Ac f a=0:=by
 unfold kC.Ac lU.Ab;rw[decide_eq_true hf,Tv hf ha];rfl
theorem xS{f a:Int}(hf:f=32\/f=64)(ha:0<=a/\a<2*sg f):¬dM.lT f a=4↔a%sg f<=iN.jV (uW.vB f):=by
 have hc:=(wT hf (Xb ha) (Tv hf ha)).2;have hi:0<=iN.jV (uW.vB f):=by rcases hf with rfl |rfl <;> decide
 have hh:cK.kV (aG.fD f)<iN.jV (uW.vB f):=by rcases hf with rfl |rfl <;> decide
 rw[hc]
 by_cases c0:a%sg f=0
 ·rw[if_pos c0];omega
 ·rw[if_neg c0]
  by_cases c1:a%sg f<cK.kV (aG.fD f)
  ·rw[if_pos c1];omega
  ·rw[if_neg c1]
   by_cases c2:a%sg f<iN.jV (uW.vB f)
   ·rw[if_pos c2];omega
   ·rw[if_neg c2]
    by_cases c3:a%sg f=iN.jV (uW.vB f)
    ·rw[if_pos c3];omega
    ·rw[if_neg c3];omega
theorem yM{f a b:Int}(hf:f=32\/f=64)(ha:0<=a/\a<2*sg f)(hb:0<=b/\b<2*sg f):iA.aCZ f a b:=by
 obtain⟨e1,e2⟩:=Fh hf;exact⟨hf,Xb ha,Xb hb,aFX hf ha,aFX hf hb,fun h=>⟨⟨hf,Xb ha⟩,Tv hf ha,by rw[e1,e2];exact(xS hf ha).1 h⟩,fun h=>⟨⟨hf,Xb hb⟩,Tv hf hb,by rw[e1,e2];exact(xS hf hb).1 h⟩⟩
theorem aCH{f a b:Int}(hf:f=32\/f=64)(ha:0<=a/\a<2*sg f)(hb:0<=b/\b<2*sg f)(h:¬0<iA.yX f a b):a%sg f<=iN.jV (uW.vB f)/\b%sg f<=iN.jV (uW.vB f)/\ord f a<=ord f b:=by
 unfold iA.yX at h;rw[Tr hf ha,Tr hf hb]at h
 by_cases c:dM.lT f a=4\/dM.lT f b=4
 ·rw[if_pos c]at h;omega
 ·rw[if_neg c]at h;refine⟨(xS hf ha).1 fun h=>c (.inl h),(xS hf hb).1 fun h=>c (.inr h),?_⟩;split at h
  ·omega
  ·split at h <;> omega
theorem bAC{f a b:Int}(hf:f=32\/f=64)(ha:0<=a/\a<2*sg f)(hb:0<=b/\b<2*sg f)(ia:a%sg f<=iN.jV (uW.vB f))(ib:b%sg f<=iN.jV (uW.vB f)):iA.yX f a b=if ord f a<ord f b then -1 else if ord f b<ord f a then 1 else 0:=by
 unfold iA.yX;have c1:=(xS hf ha).2 ia;have c2:=(xS hf hb).2 ib;rw[aP,Tr hf ha,Tr hf hb]
theorem wM{f a:Int}(ha:0<=a/\a<2*sg f):ord f a=a%sg f\/ord f a=-(a%sg f):=by
 rw[tL ha];unfold ord;split
 ·exact .inl rfl
 ·right;omega
theorem Ye{f i:Int}(hf:f=32\/f=64)(h:i=-3\/i=-1\/i=0\/i=1\/i=2\/i=3\/i=6):(0<=mY.Yf f i/\mY.Yf f i<2*sg f)/\mY.Yf f i%sg f<iN.jV (uW.vB f)/\R.qz (bN.gX f (mY.Yf f i))=(i:Rat)/2:=by
 have p1:=R.mP 0;rw[R.eB]at p1;have p1:R.pz (-1)*2=1:=p1;have key:∀p:Int×Int,bN.gX f (mY.Yf f i)=p->(p.1:Rat)*R.pz p.2=(i:Rat)/2->R.qz (bN.gX f (mY.Yf f i))=(i:Rat)/2:=fun p h1 h2=>by rw[h1];exact h2
 refine⟨?_,?_,?_⟩
 ·rcases hf with rfl |rfl <;> rcases h with rfl |rfl |rfl |rfl |rfl |rfl |rfl <;> decide +kernel
 ·rcases hf with rfl |rfl <;> rcases h with rfl |rfl |rfl |rfl |rfl |rfl |rfl <;> decide +kernel
 ·rcases h with rfl |rfl |rfl |rfl |rfl |rfl |rfl
  ·refine key (-3,-1) (by rcases hf with rfl |rfl <;> decide +kernel) ?_;show((-3:Int):Rat)*R.pz (-1)=((-3:Int):Rat)/2;grind
  ·refine key (-1,-1) (by rcases hf with rfl |rfl <;> decide +kernel) ?_;show((-1:Int):Rat)*R.pz (-1)=((-1:Int):Rat)/2;grind
  ·refine key (0,0) (by rcases hf with rfl |rfl <;> decide +kernel) ?_;show((0:Int):Rat)*R.pz 0=((0:Int):Rat)/2;rw[show((0:Int):Rat)=0 from rfl];grind
  ·refine key (1,-1) (by rcases hf with rfl |rfl <;> decide +kernel) ?_;show((1:Int):Rat)*R.pz (-1)=((1:Int):Rat)/2;grind
  ·refine key (1,0) (by rcases hf with rfl |rfl <;> decide +kernel) ?_;show((1:Int):Rat)*R.pz 0=((2:Int):Rat)/2;rw[R.eB,show((1:Int):Rat)=1 from rfl,show((2:Int):Rat)=2 from rfl];grind
  ·refine key (3,-1) (by rcases hf with rfl |rfl <;> decide +kernel) ?_;show((3:Int):Rat)*R.pz (-1)=((3:Int):Rat)/2;grind
  ·refine key (3,0) (by rcases hf with rfl |rfl <;> decide +kernel) ?_;show((3:Int):Rat)*R.pz 0=((6:Int):Rat)/2;rw[R.eB,show((3:Int):Rat)=3 from rfl,show((6:Int):Rat)=6 from rfl];grind
theorem aLT{fn:Int}(h:1<=fn/\fn<=5):∃lo hi:Int,Dc.aXK fn=(if fn=2\/fn=5 then -1 else 1,lo,hi)/\(lo=-3\/lo=-1\/lo=0\/lo=1\/lo=2\/lo=3\/lo=6)/\(hi=-3\/hi=-1\/hi=0\/hi=1\/hi=2\/hi=3\/hi=6)/\∀q:Rat,(lo:Rat)/2<=q->q<=(hi:Rat)/2->aDC fn q:=by
 unfold aDC;rcases bGK h with rfl |rfl |rfl |rfl |rfl
 ·exact⟨-3,3,rfl,by decide,by decide,fun q h1 h2=>by rw[show((-3:Int):Rat)=-3 from rfl]at h1;rw[show((3:Int):Rat)=3 from rfl]at h2;rw[if_pos (by decide)];constructor <;> grind⟩
 ·exact⟨0,6,rfl,by decide,by decide,fun q h1 h2=>by rw[show((0:Int):Rat)=0 from rfl]at h1;rw[show((6:Int):Rat)=6 from rfl]at h2;rw[if_neg (by decide),if_pos rfl];constructor <;> grind⟩
 ·exact⟨-3,3,rfl,by decide,by decide,fun q h1 h2=>by rw[show((-3:Int):Rat)=-3 from rfl]at h1;rw[show((3:Int):Rat)=3 from rfl]at h2;rw[if_pos (by decide)];constructor <;> grind⟩
 ·exact⟨-1,1,rfl,by decide,by decide,fun q h1 h2=>by rw[show((-1:Int):Rat)=-1 from rfl]at h1;rw[show((1:Int):Rat)=1 from rfl]at h2;rw[if_neg (by decide),if_neg (by decide),if_pos rfl];constructor <;> grind⟩
 ·exact⟨0,2,rfl,by decide,by decide,fun q h1 h2=>by rw[show((0:Int):Rat)=0 from rfl]at h1;rw[show((2:Int):Rat)=2 from rfl]at h2;rw[if_neg (by decide),if_neg (by decide),if_neg (by decide)];constructor <;> grind⟩
theorem aHC{f fn a b lo hi:Int}(ha:0<=a/\a<18446744073709551616)(hb:0<=b/\b<18446744073709551616)(aFM:fT.oW f fn a=0)(aFL:fT.oW f fn b=0)(h5:fn<=5)(Rv:lo=-3\/lo=-1\/lo=0\/lo=1\/lo=2\/lo=3\/lo=6)(Qg:hi=-3\/hi=-1\/hi=0\/hi=1\/hi=2\/hi=3\/hi=6)(hR:∀q:Rat,(lo:Rat)/2<=q->q<=(hi:Rat)/2->aDC fn q)
  (hc:¬0<iA.yX f a b) (bVM:¬0<iA.yX f (mY.Yf f lo) a) (hj:¬0<iA.yX f b (mY.Yf f hi)) (va:(fC.oL f fn a).2.1=true) (vb:(fC.oL f fn b).2.1=true) :
  ((0<=(fC.oL f fn a).1/\(fC.oL f fn a).1<2*sg f)/\(fC.oL f fn a).1%sg f<=iN.jV (uW.vB f))/\((0<=(fC.oL f fn b).1/\(fC.oL f fn b).1<2*sg f)/\(fC.oL f fn b).1%sg f<=iN.jV (uW.vB f))/\if fn=2\/fn=5 then ord f (fC.oL f fn b).1<=ord f (fC.oL f fn a).1 else ord f (fC.oL f fn a).1<=ord f (fC.oL f fn b).1:=by
 obtain⟨hf,bLC,f1,_⟩:=yT aFM;obtain⟨_,bEM,_,_⟩:=yT aFL;have a2:0<=a/\a<2*sg f:=⟨ha.1,(wT hf ha bLC).1⟩;have b2:0<=b/\b<2*sg f:=⟨hb.1,(wT hf hb bEM).1⟩;obtain⟨l1,l2,l3⟩:=Ye hf Rv;obtain⟨u1,u2,u3⟩:=Ye hf Qg;obtain⟨ia,ib,bSW⟩:=aCH hf a2 b2 hc;obtain⟨_,_,bSP⟩:=aCH hf l1 a2 bVM;obtain⟨_,_,bSV⟩:=aCH hf b2 u1 hj;have Uk:0<sg f:=by unfold sg;split <;> omega
 have m1:=cHP a (show sg f≠0 by omega);have m2:=cHP b (show sg f≠0 by omega);have m3:=cHP (mY.Yf f lo) (show sg f≠0 by omega);have m4:=cHP (mY.Yf f hi) (show sg f≠0 by omega);have fa:a%sg f<iN.jV (uW.vB f):=by
  rcases wM l1 with x |x <;> rcases wM u1 with y |y <;> rcases wM a2 with z |z <;> rcases wM b2 with v |v <;> omega
 have fb:b%sg f<iN.jV (uW.vB f):=by
  rcases wM l1 with x |x <;> rcases wM u1 with y |y <;> rcases wM a2 with z |z <;> rcases wM b2 with v |v <;> omega
 have q1:=aMA hf l1 a2 l2 fa bSP;have q2:=aMA hf a2 b2 fa fb bSW;have q3:=aMA hf b2 u1 fb u2 bSV;rw[l3]at q1;rw[u3]at q3;have ra:=hR _ q1 (cDY q2 q3);have rb:=hR _ (cDY q1 q2) q3;obtain⟨V,zA,wA⟩:=aGN ha aFM h5 fa ra va;obtain⟨U,zB,wB⟩:=aGN hb aFL h5 fb rb vb;refine⟨zA.bd hf,zB.bd hf,?_⟩
 by_cases lt:R.qz (bN.gX f a)<R.qz (bN.gX f b)
 ·have m:=aKH ⟨f1,h5⟩ ra rb (bXQ hf a2 b2 fa fb lt) wA wB
  by_cases c:fn=2\/fn=5
  ·rw[if_pos c]at m ⊢;exact zB.mono hf zA m
  ·rw[if_neg c]at m ⊢;exact zA.mono hf zB m
 ·have m:=Hs hf (show R.qz (bN.gX f b)<=R.qz (bN.gX f a) by grind);rw[La hf a2 fa,La hf b2 fb]at m;have e:a=b\/(a%sg f=0/\b%sg f=0):=by
   have e:ord f a=ord f b:=by omega
   rw[tL a2,tL b2];unfold ord at e;split at e <;> split at e <;> simp_all <;> omega
  rcases e with rfl |⟨z1,z2⟩
  ·split <;> exact Int.le_refl _
  ·have n1:=Vq ha aFM z1;have n2:=Vq hb aFL z2;split
   ·exact n2.mono hf n1 cFB
   ·exact n1.mono hf n2 cFB
end W.Ziv
namespace W.Ziv
open Go AI M W W.Qy
def sI(u W:Nat):Nat->Int
 |0=>0
 |n+1=>sI u W n+(if n%4=1 then(R.sq u W n:Int)else if n%4=3 then -(R.sq u W n:Int)else 0)
def cI(u W:Nat):Nat->Int
 |0=>0
 |n+1=>cI u W n+(if n%4=0 then(R.sq u W n:Int)else if n%4=2 then -(R.sq u W n:Int)else 0)
theorem aVG(u W:Nat):∀n,((sI u W n:Int):Rat)=R.sum (fun k=>R.ss k*(R.sq u W k:Rat)) n
 |0=>by simp[sI,R.sum]
 |n+1=>by
  rw[sI,R.dS,cLT,aVG u W n];unfold R.ss;split
  ·rw[cNU,cKC]
  ·split
   ·rw[cLS,cKC];grind
   ·rw[cNS];rfl
theorem aWP(u W:Nat):∀n,((cI u W n:Int):Rat)=R.sum (fun k=>R.cc k*(R.sq u W k:Rat)) n
 |0=>by simp[cI,R.sum]
 |n+1=>by
  rw[cI,R.dS,cLT,aWP u W n];unfold R.cc;split
  ·rw[cNU,cKC]
  ·split
   ·rw[cLS,cKC];grind
   ·rw[cNS];rfl
def wK:Nat:=1208925819614629174706176
theorem aXI:R.ab (((1017275999990815458903788:Nat):Rat)-(wK:Rat)*R.sn 1)<=680/\R.ab (((653185407961314874212932:Nat):Rat)-(wK:Rat)*R.cs 1)<=680:=by
 have e1:sI (2^79) (2^80) 81=((579589912201271152073009:Nat):Int):=by decide +kernel
 have e2:cI (2^79) (2^80) 81=((1060932217912824869797341:Nat):Int):=by decide +kernel
 have h1:=aVG (2^79) (2^80) 81;have h2:=aWP (2^79) (2^80) 81;rw[e1,cKC]at h1;rw[e2,cKC]at h2;have m:((2^79:Nat):Rat)<((2^79:Nat):Rat)+1:=by grind
 have b:=R.aGK (T:=1) (w1:=79) (h:=1) (u:=2^79) (by grind) (cFB) (by rw[Rat.mul_one];exact cFB) (by rw[Rat.mul_one];exact m) (by decide) (by decide) (by decide) h1 h2;have d:R.Ie (2^(79+1)) 1 579589912201271152073009 1060932217912824869797341=(1017275999990815458903788,653185407961314874212932):=by decide +kernel
 have w:2^(79+1)=wK:=by decide +kernel
 have t:((4^1*(2*(79+1)+10):Nat):Rat)=680:=by norm_cast
 rw[d,w,t]at b;exact b
def Pq:Int:=4607182418800017408
theorem aMB:Real Pq:=⟨by decide,by decide +kernel,by decide +kernel,by decide +kernel⟩
theorem aMC:R.qz (bA.qW Pq)=1:=by
 rw[show bA.qW Pq=(1,0) by decide +kernel,oP]
theorem aUY:R.pz (-80)*(wK:Rat)=1:=by
 have:=R.fU 0 (n:=80) (c:=(wK:Rat)) (by rw[show 2^80=wK by decide +kernel]);rwa [R.eB]at this
theorem aXT:R.ab (((1017275999990815458903788:Nat):Rat)-(wK:Rat)*R.Sf 1 (kx Pq))<=681/\R.ab (((653185407961314874212932:Nat):Rat)-(wK:Rat)*R.Cf 1 (kx Pq))<=681:=by
 obtain⟨p1,p2⟩:=R.eY;have n1:=Uh aMB;rw[aMC]at n1;unfold R.rA at n1;have hk:R.ab (1-(kx Pq:Rat)*(R.pi/2))<=1:=cDY n1 (by grind);have hl:R.ab (1-((0:Int):Rat)*(R.pi/2))<=1:=by
  rw[show((0:Int):Rat)=0 from rfl,cNS,R.aY];grind
 obtain⟨a,b⟩:=R.aXJ hk hl;have e0:R.Sf 1 0=R.sn 1:=by
  unfold R.Sf R.rs;rw[if_pos (show(0:Int)%4=0 from rfl),show((0:Int):Rat)=0 from rfl,cNS,show(1:Rat)-0=1 by grind]
 have e1:R.Cf 1 0=R.cs 1:=by
  unfold R.Cf R.rc;rw[if_pos (show(0:Int)%4=0 from rfl),show((0:Int):Rat)=0 from rfl,cNS,show(1:Rat)-0=1 by grind]
 rw[e0]at a;rw[e1]at b;obtain⟨c,d⟩:=aXI;have h:=R.Cw (n:=80) (by decide);rw[R.aLV]at h;have hw:=aUY;have w0:(0:Rat)<=(wK:Rat):=by exact_mod_cast cEU _
 have m:=R.aE w0 (show 0<=R.pz (-80)-R.nS from by
  have:R.nS<=R.pz (-80):=h;grind)
 have hm:(wK:Rat)*R.nS<=1:=by grind
 rw[R.aY]at a b c d;have ma1:=R.aE w0 (show 0<=R.nS+(R.Sf 1 (kx Pq)-R.sn 1) by grind);have ma2:=R.aE w0 (show 0<=R.nS-(R.Sf 1 (kx Pq)-R.sn 1) by grind);have mb1:=R.aE w0 (show 0<=R.nS+(R.Cf 1 (kx Pq)-R.cs 1) by grind);have mb2:=R.aE w0 (show 0<=R.nS-(R.Cf 1 (kx Pq)-R.cs 1) by grind);rw[R.aY,R.aY];generalize (wK:Rat)=W at *;generalize R.Sf 1 (kx Pq)=A at *;generalize R.Cf 1 (kx Pq)=B at *;constructor <;> constructor <;> grind
theorem aRY{a b c s w d:Nat}{V C:Rat}(hw:0<w)(hd:d<c)(h1:a*(c+d)+w*d<=w*s)(h2:w*(s+d)+b*d<=b*c)(hC:R.ab ((c:Rat)-(w:Rat)*C)<=(d:Rat))(hS:C≠0->R.ab ((s:Rat)-(w:Rat)*(V*C))<=(d:Rat)):(a:Rat)<=(w:Rat)*V/\(w:Rat)*V<=(b:Rat):=by
 have g1:(a:Rat)*((c:Rat)+d)+w*d<=w*s:=by exact_mod_cast h1
 have g2:(w:Rat)*((s:Rat)+d)+b*d<=b*c:=by exact_mod_cast h2
 have w0:(0:Rat)<w:=by exact_mod_cast hw
 have a0:(0:Rat)<=a:=by exact_mod_cast cEU _
 have b0:(0:Rat)<=b:=by exact_mod_cast cEU _
 have d0:(d:Rat)<c:=by exact_mod_cast hd
 rw[R.aY]at hC;have c0:0<C:=by
  refine Rat.not_le.1 fun hn=>?_
  have:=R.aE (cEA w0) (show 0<=-C by grind);grind
 have hS:=hS (by grind);rw[R.aY]at hS;have q0:=cEK w0 c0;generalize (w:Rat)=W at *;generalize (a:Rat)=A at *;generalize (b:Rat)=B at *;generalize (c:Rat)=c at *;generalize (s:Rat)=s at *;generalize (d:Rat)=d at *;have m1:=R.aE a0 (show 0<=c+d-W*C by grind);have m2:=R.aE (cEA w0) (show 0<=W*(V*C)-(s-d) by grind);have m3:=R.aE b0 (show 0<=W*C-(c-d) by grind);have m4:=R.aE (cEA w0) (show 0<=s+d-W*(V*C) by grind);exact⟨R.cG q0 (by grind),R.cG q0 (by grind)⟩
theorem Ty:∀{fn:Int} {A B:Int},((fn=1/\A=1017275999990815458903107/\B=1017275999990815458904469)\/(fn=2/\A=653185407961314874212251/\B=653185407961314874213613)\/(fn=3/\A=1882790410002582395862843/\B=1882790410002582395872377))->R.qz (A,-80)<=vx fn Pq/\vx fn Pq<=R.qz (B,-80):=by
 intro fn A B h;obtain⟨a,b⟩:=aXT;have hw:=aUY;have w0:(0:Rat)<(wK:Rat):=by exact_mod_cast(show 0<wK by decide)
 have p0:=R.dA (-80);have key:∀{V:Rat} {A B:Int},(A:Rat)<=(wK:Rat)*V->(wK:Rat)*V<=(B:Rat)->R.qz (A,-80)<=V/\V<=R.qz (B,-80):=by
  intro V A B h1 h2;have m1:=R.aE (cEA p0) (show 0<=(wK:Rat)*V-(A:Rat) by grind);have m2:=R.aE (cEA p0) (show 0<=(B:Rat)-(wK:Rat)*V by grind);unfold R.qz;dsimp only;have e:R.pz (-80)*((wK:Rat)*V)=V:=by rw[<-cKA,hw,cNU]
  constructor <;> grind
 rw[R.aY]at a b;have k1:((681:Nat):Rat)=681:=by norm_cast
 unfold vx R.fv;rw[aMC];rcases h with ⟨rfl,rfl,rfl⟩ |⟨rfl,rfl,rfl⟩ |⟨rfl,rfl,rfl⟩
 ·rw[if_pos rfl];refine key ?_ ?_
  ·rw[show(1017275999990815458903107:Int)=((1017275999990815458903788:Nat):Int)-((681:Nat):Int) by decide +kernel,cMU,cKC,cKC,k1];grind
  ·rw[show(1017275999990815458904469:Int)=((1017275999990815458903788:Nat):Int)+((681:Nat):Int) by decide +kernel,cLT,cKC,cKC,k1];grind
 ·rw[if_neg (by decide),if_pos rfl];refine key ?_ ?_
  ·rw[show(653185407961314874212251:Int)=((653185407961314874212932:Nat):Int)-((681:Nat):Int) by decide +kernel,cMU,cKC,cKC,k1];grind
  ·rw[show(653185407961314874213613:Int)=((653185407961314874212932:Nat):Int)+((681:Nat):Int) by decide +kernel,cLT,cKC,cKC,k1];grind
 ·rw[if_neg (by decide),if_neg (by decide)];generalize R.Sf 1 (kx Pq)=S at *;generalize R.Cf 1 (kx Pq)=C at *;obtain⟨q1,q2⟩:=aRY (a:=1882790410002582395862843) (b:=1882790410002582395872377) (c:=653185407961314874212932) (s:=1017275999990815458903788) (w:=wK) (d:=681) (V:=S/C) (C:=C) (by decide) (by decide) (by decide +kernel) (by decide +kernel) (by rw[R.aY,k1];exact⟨b.1,b.2⟩) (fun hc=>by rw[cKP hc,R.aY,k1];exact⟨a.1,a.2⟩);refine key ?_ ?_
  ·rw[show(1882790410002582395862843:Int)=((1882790410002582395862843:Nat):Int)from rfl,cKC];exact q1
  ·rw[show(1882790410002582395872377:Int)=((1882790410002582395872377:Nat):Int)from rfl,cKC];exact q2
theorem wL{f P:Int}(hf:f=32\/f=64){s:(Int×Int)×(Int×Int)}{A B:Int×Int}(hA:0<A.1)(a:R.qz A<=R.qz s.1)(h:R.qz s.1<=R.qz s.2)(b:R.qz s.2<=R.qz B)(e1:iS.jY f A=P)(e2:iS.jY f B=P):pD.aJZ f s=(P,true):=by
 have s0:0<s.1.1:=kB.1 (by have:=kB.2 hA;grind);have t0:0<s.2.1:=kB.1 (by have:=kB.2 s0;grind);have m1:=qD hf hA a;have m2:=qD hf s0 h;have m3:=qD hf t0 b;unfold pD.aJZ;rw[aW,show iS.jY f s.1=P by omega]
theorem aXP{f P A B:Int}(hf:f=32\/f=64){s:(Int×Int)×(Int×Int)}{V:Rat}(h:aJF s V 128)(hA:1<A)(hB:B<=2417851639229258349412352)(a:R.qz (A,-80)<=V)(b:V<=R.qz (B,-80))(e1:iS.jY f (A-1,-80)=P)(e2:iS.jY f (B+1,-80)=P):pD.aJZ f s=(P,true):=by
 have V2:V<=R.qz (1,1):=cDY b ((R.Mp (g:=-80) (by show(-80:Int)<=-80;decide) (by show(-80:Int)<=1;decide)).2 (by rw[show(1:Int)*((2^((1:Int) - -80).toNat:Nat):Int)=2417851639229258349412352 by decide +kernel,show((2^((-80:Int) - -80).toNat:Nat):Int)=1 by decide +kernel,Int.mul_one];exact hB));have V0:0<=V:=cDY (cEA (kB.2 (show 0<((A,-80):Int×Int).1 by show 0<A;omega))) a;have e:R.qz (1,1)=2:=by unfold R.qz;rw[R.aAY];grind
 rw[e]at V2;obtain⟨_,_,lo,hi,wd,_⟩:=h;rw[R.bP V0]at wd;have w1:=R.aE (cEA (R.dA (-129))) (show 0<=2-V by grind);have w2:=R.mP (-128);have w3:=R.cF (show(-128:Int)<=-80 by decide);have wd:R.qz s.2-R.qz s.1<=R.pz (-129)*V:=wd;have w2:R.pz (-129)*2=R.pz (-128):=w2;have ea:R.qz (A-1,-80)=R.qz (A,-80)-R.pz (-80):=by
  unfold R.qz;dsimp only;rw[cMU,show((1:Int):Rat)=1 from rfl];grind
 have eb:R.qz (B+1,-80)=R.qz (B,-80)+R.pz (-80):=by
  unfold R.qz;dsimp only;rw[cLT,show((1:Int):Rat)=1 from rfl];grind
 exact wL hf (A:=(A-1,-80)) (B:=(B+1,-80)) (by show 0<A-1;omega) (by grind) (by grind) (by grind) e1 e2
theorem aMD{fn:Int}(h:fn=1\/fn=2\/fn=3):fT.oW 64 fn Pq=0/\(bW.Jd 64 fn Pq).2=false:=by
 rcases h with rfl |rfl |rfl <;> exact⟨by decide +kernel,by decide +kernel⟩
def aSL(fn:Int):Int:=if fn=1 then 4605754516372524270 else if fn=2 then 4603041830072026764 else 4609692760021066662
theorem aEY{fn:Int}(h:fn=1\/fn=2\/fn=3):bW.yV 64 fn Pq 128=(aSL fn,true):=by
 obtain⟨he,hs⟩:=aMD h;have hn:=Rm (by decide) he hs;obtain⟨_,hE⟩:=wS hn (show(1:Int)<=128/\(128:Int)<=66000 by decide);have ev:vZ fn (fF.xV 64 Pq)=vx fn Pq:=by
  unfold vZ fF.xV;rw[aP,if_neg (by decide)]
 rw[ev]at hE;unfold bW.yV zY.dec;rcases h with rfl |rfl |rfl
 ·obtain⟨a,b⟩:=Ty (fn:=1) (.inl ⟨rfl,rfl,rfl⟩);exact aXP (.inr rfl) hE (by decide) (by decide) a b (by decide +kernel) (by decide +kernel)
 ·obtain⟨a,b⟩:=Ty (fn:=2) (.inr (.inl ⟨rfl,rfl,rfl⟩));exact aXP (.inr rfl) hE (by decide) (by decide) a b (by decide +kernel) (by decide +kernel)
 ·obtain⟨a,b⟩:=Ty (fn:=3) (.inr (.inr ⟨rfl,rfl,rfl⟩));exact aXP (.inr rfl) hE (by decide) (by decide) a b (by decide +kernel) (by decide +kernel)
theorem Rl{fn l:Int}(h:fn=1\/fn=2\/fn=3)(hl:128<=l/\l<=66000):IvClimb.Dj 64 fn Pq 128 l=(aSL fn,true,128):=by
 obtain⟨he,hs⟩:=aMD h;have el:iG.Dg 128 l=true:=decide_eq_true ⟨by decide,hl⟩;unfold IvClimb.Dj IvClimb.Kd;rw[el,if_pos rfl,he,if_neg (by decide),hs,cond_false];unfold IvClimb.Qw;rw[IvLadder.Jg hl.1];unfold IvClimb.first
 rw[aEY h,cond_true];dsimp only;rw[aEY h]
end W.Ziv
namespace W
open Go AI M
namespace Lq
def E:=mE [(26,fC.aJ),(27,bW.aJ),(28,IvClimb.aJ)] 93 [] [(7,[1,4,7,10])] [7]
def aF:=bd f24
theorem aX:Nk E aF:=nk
def J7 a b c d:=mU E f24 aF 7 [cY a,cY b,cY c,cY d]
theorem start:aI E f24 aF []=letI F:=fC.oL 64 3 4607182418800017408;letI C:=fC.oL 64 2 4607182418800017408;letI B:=fC.oL 64 1 4607182418800017408;letI A:=some [D.s (sc (bool false))];aO ((0:Int)<=(4607182418800017408:Int)/\(4607182418800017408:Int)<(18446744073709551616:Int)) (aO ((0:Int)<=(4607182418800017408:Int)/\(4607182418800017408:Int)<(18446744073709551616:Int)) (aO ((0:Int)<=(4607182418800017408:Int)/\(4607182418800017408:Int)<(18446744073709551616:Int)) (aO ((0:Int)<=(4602678819172646912:Int)/\(4602678819172646912:Int)<(18446744073709551616:Int)) (aB (!B.snd.fst) A (aB (!C.snd.fst) A (aB (!F.snd.fst) A (Lq.J7 B.fst C.fst F.fst (bW.aIT 64 4 4602678819172646912 1).fst))))))):=eJ aX
theorem Pl a b c d:J7 a b c d=letI B:=some [D.s (sc (bool false))];letI A:=IvClimb.Dj 64 1 4607182418800017408 128 128;aO ((0:Int)<=(4607182418800017408:Int)/\(4607182418800017408:Int)<(18446744073709551616:Int)) (aB (a==4605754516372524270) (aB (b==4603041830072026764) (aB (c==4609692760021066662) (aB (d==4607182418800017408) (some [D.s (sc (bool (A.fst==a&&(A.snd.fst==true&&(A.snd.snd==128&&true)))))]) B) B) B) B):=cJ aX
def sp:Prop×List D:=(True,[.s (.sc (.bool true))])
theorem spec(h:sp.1):aI E f24 aF []=some sp.2:=by
 have v:∀fn:Int,fn=1\/fn=2\/fn=3->fC.oL 64 fn 4607182418800017408=(Ziv.aSL fn,true,128):=fun fn h=>Ziv.Rl (l:=65536) h (by decide)
 have d:bW.aIT 64 4 4602678819172646912 1=(4607182418800017408,true):=by
  unfold bW.aIT;rw[if_neg (show ¬bW.aTW 64 4 4602678819172646912 1≠0 from fun h=>h (by decide +kernel)),show bW.Jd 64 4 4602678819172646912=(4607182418800017408,true) by decide +kernel,cond_true]
 refine start.trans ?_;rw[v 1 (by decide),v 2 (by decide),v 3 (by decide),d,gP (by decide),gP (by decide),gP (by decide),gP (by decide)];show J7 4605754516372524270 4603041830072026764 4609692760021066662 4607182418800017408=_;have c:IvClimb.Dj 64 1 4607182418800017408 128 128=(Ziv.aSL 1,true,128):=Ziv.Rl (l:=128) (.inl rfl) (by decide);rw[Pl,c,gP (by decide)];rfl
def aJ:dK:=orc0  sp
theorem ok:OK 24 aJ:=(fJ E aF (aA fC.ok (aA bW.ok (aA IvClimb.ok aD))) func24).bJO spec
end Lq
end W
end Go.Proofs.YtplagoepbghhpaaGreatDoor
end
