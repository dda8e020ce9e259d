/- Contracts. -/
import Derived.WalkKit
import Derived.ProofKit
import Derived.OpenShut
import Derived.Carry
import Derived.LaidMore
import Derived.MakeChecks
import Derived.Test.YtplagoepbghhpaaGreatDoorBZivOdd5
set_option linter.unusedVariables false
set_option linter.unusedSimpArgs false
set_option exponentiation.threshold 10000000
noncomputable section
open Go.IntKind(i8 i16 i32 i64 u8 u16 u32 u64)
open Go.Proofs.Tryz
open Int renaming toNat_natCast->cFM,natCast_mul->cHN,mul_neg->cKP,emod_nonneg->cKT,add_zero->cLW,eq_ofNat_of_zero_le->cGR,tdiv_eq_ediv_of_nonneg->cJD,natCast_ediv->cHF,emod_emod_of_dvd->cQN,mul_ediv_add_emod->cKS
open Nat renaming mul_add->cGQ,mul_assoc->cGS,mod_lt->cDX,pow_add->cGP,pow_pos->cEP,div_add_mod->cGV,pow_succ->cGO,le_refl->cBP,add_zero->cCN,div_eq_of_lt->cHM,lt_of_lt_of_le->cCM,lt_of_le_of_lt->cIE,mul_le_mul_left->cED
open Bool renaming false_eq_true->cET,not_true->cDP,not_false->cNC
open List renaming replicate->cDS,length_set->cRN,getD_eq_getElem?_getD->cGT,getElem?_eq_getElem->cCG,getElem?_map->cBT
namespace Go.Proofs.YtplagoepbghhpaaGreatDoor
open Go.Value(int bool slice)
open AI.S(sc ints)
namespace W
open Go AI M
namespace uA
def E:=mE [(176,bCU.aJ),(175,aRK.aJ)] 9 [8] [] []
def aE:=bd f129
theorem aT:Nk E aE:=nk
theorem start a b c d e f:aF E f129 aE [D.agg [sc (int u64 a),sc (int i64 b),sc (int i64 c),sc (int i64 d),sc (int u64 e),sc (int u64 f)]]=letI A:=dg ((2:Nat)^(i64.wrap ((0:Int)-c)).toNat);aN (i64.wrap ((0:Int)-c)<=1099511627776) (aN (yT (a,b,c,d,e,f)/\cN A/\bl (val A)<=2200) (some [D.s (sc (int u64 (↑(Xp (a,b,c,d,e,f) (val A)):Int)))])):=eJ aT
def one(k:K6):Int:=if k.1=2147483648 then 1065353216 else 4607182418800017408
theorem aZL{k:K6}(hk:yT k):((Xp k (2^(0-kE k).toNat):Nat):Int)=one k:=by
 rcases hk with rfl |rfl
 ·decide +kernel
 ·decide +kernel
def sp(k:K6):Prop×List D:=(yT k,[.s (.sc (.int .u64 (one k)))])
theorem spec:iS E f129 aE (pG (.pair (sN .u64) (.pair (sN .i64) (.pair (sN .i64) (.pair (sN .i64) (.pair (sN .u64) (sN .u64))))))) sp:=by
 intro k h;have hk:yT k:=h;have hE:-1074<=kE k/\kE k<=0:=by rcases hk with rfl |rfl <;> decide
 refine(start k.1 k.2.1 k.2.2.1 k.2.2.2.1 k.2.2.2.2.1 k.2.2.2.2.2).trans ?_;have w:i64.wrap (0-k.2.2.1)=0-kE k:=wrap_i64 (by show _<=0-kE k;omega) (by show 0-kE k<_;omega);rw[w,gP];show aN (yT k/\_) _=_;have hb:bl (val (dg (2^(0-kE k).toNat)))<=2200:=by
  rw[bD];exact dP.2 (Nat.pow_lt_pow_right (by decide) (by omega))
 rw[gP ⟨hk,aY _,hb⟩,bD];show some [D.s (S.sc (Value.int .u64 ((Xp k (2^(0-kE k).toNat):Nat):Int)))]=_;rw[aZL hk];rfl
def aJ:dJ:=orc1 (pG (.pair (sN .u64) (.pair (sN .i64) (.pair (sN .i64) (.pair (sN .i64) (.pair (sN .u64) (sN .u64))))))) sp
theorem ok:OK 129 aJ:=(dY E aE (aA bCU.ok (aA aRK.ok aC)) func129).oU rfl spec
end uA
namespace Mk
def E:=mE [(218,Norm.aJ)] 16 [] [] []
def aE:=bd f179
theorem aT:Nk E aE:=nk
theorem start a b:aF E f179 aE [D.s (sc (bool a)),D.s (ints u32 b)]=letI A:=dg (val b);aN (cA b/\b.length<=4398046511104) (aB a (some [D.agg [sc (bool (decide (0<(A.length:Int)))),ints u32 A]]) (some [D.agg [sc (bool false),ints u32 A]])):=eJ aT
def sp(b:Bool)(m:List Int):Prop×List D:=(cA m/\m.length<=4398046511104,[zD (zs b (val m))])
theorem spec:fN E f179 aE pB (pI .u32) sp:=by
 intro b m h;refine(start b m).trans ((gP h).trans ?_);unfold sp;simp only[bEQ];cases b with
 |false=>rfl
 |true =>
  rw[bT];have:decide (0<((dg (val m)).length:Int))=decide (val m≠0):=by
   by_cases h:val m=0
   ·rw[h,cD];rfl
   ·rw[decide_eq_true h,decide_eq_true];have:(dg (val m)).length≠0:=fun hh=>h (gJ.1 hh)
    omega
  rw[this];rfl
def aJ:dJ:=orc2 pB (pI .u32) sp
theorem ok:OK 179 aJ:=(dY E aE (aA Norm.ok aC) func179).lD rfl spec
end Mk
namespace aDS
def E:=mE [(128,aSC.aJ),(216,Aa.aJ),(185,Bz.aJ),(215,bEN.aJ),(179,Mk.aJ)] 30 [] [] []
def aE:=bd f177
theorem aT:Nk E aE:=nk
theorem start a c d e f g b:aF E f177 aE [D.agg [sc (int u64 a),sc (int i64 c),sc (int i64 d),sc (int i64 e),sc (int u64 f),sc (int u64 g)],D.s (sc (int u64 b))]=letI C:=(a,c,d,e,f,g);letI F:=kE C+(↑(tP C (b%a).toNat):Int)-d;letI B:=(↑(uY C (b%a).toNat):Int);letI H:=dg B.toNat;letI A:=dg (val H*(2:Nat)^(i64.wrap F).toNat);letI G:=zs (decide (a<=b)) (val A);aN (yT C/\0<=b) (aN (yT C/\0<=b%a/\b%a<9223372036854775808) (aN (0<=B/\B<(18446744073709551616:Int)) (aN (cN H/\H.length<=1099511627776/\i64.wrap F<=1099511627776) (aN (cA A/\A.length<=4398046511104) (some [D.agg [sc (bool (isNeg G)),ints u32 (dg G.natAbs)]]))))):=eJ aT
def sp(k:K6)(b:Int):Prop×List D:=(yT k/\0<=b/\b<18446744073709551616/\b%k.1<=kI k+1,[zD (zs (decide (k.1<=b)) (nT k (b%k.1).toNat))])
theorem gen{k:K6}(hk:yT k)(h:Nat)(hh:kH k=h)(h1:1<h)(h2:h<=4503599627370496)(hS:0<k.1)(bPE:k.1<=9223372036854775808)(hI:kI k+1<2200*h)(b:Int)(hb:0<=b)(bKQ:b%k.1<=kI k+1) :
  aF E f177 aE [(pG (.pair (sN .u64) (.pair (sN .i64) (.pair (sN .i64) (.pair (sN .i64) (.pair (sN .u64) (sN .u64))))))).put k,(pN .u64).put b]=some (sp k b).2:=by
 refine(start k.1 k.2.1 k.2.2.1 k.2.2.2.1 k.2.2.2.2.1 k.2.2.2.2.2 b).trans ?_;show _=some [zD (zs (decide (k.1<=b)) (nT k (b%k.1).toNat))];have Sp:=cKT b (show k.1≠0 by omega);have bKH:=Int.emod_lt_of_pos b hS;have Yy:yT (k.1,k.2.1,k.2.2.1,k.2.2.2.1,k.2.2.2.2.1,k.2.2.2.2.2):=hk;have bTN:k.2.2.1=kE k:=rfl;have ek:(k.1,k.2.1,k.2.2.1,k.2.2.2.1,k.2.2.2.2.1,k.2.2.2.2.2)=k:=rfl;rw[ek,bTN];generalize hs:(b%k.1).toNat=s;have hq:s/h<2200:=by apply Nat.div_lt_of_lt_mul;rw[Nat.mul_comm];omega
 have hx:tP k s<=2200:=by unfold tP;rw[hh];omega
 have hp:uY k s<9007199254740992:=by
  unfold uY;rw[hh];split
  ·rename_i h0;have:=(Nat.div_eq_zero_iff_lt (by omega:0<h)).1 h0;omega
  ·have:=cDX s (show 0<h by omega);omega
 have l0:(dg (uY k s)).length<=2:=dS (by omega);have l1:=aCH (uY k s) (tP k s);have ew:i64.wrap (kE k+(tP k s:Int)-kE k)=(tP k s:Int):=by rw[wrap_i64];omega
 rw[gP ⟨hk,hb⟩,gP ⟨hk,Sp,by omega⟩,gP ⟨by omega,by omega⟩,ew,cFM,cFM,gP ⟨aY _,by omega,by omega⟩,bD,gP ⟨gG _,by omega⟩,bD];rfl
theorem spec:fN E f177 aE (pG (.pair (sN .u64) (.pair (sN .i64) (.pair (sN .i64) (.pair (sN .i64) (.pair (sN .u64) (sN .u64))))))) (pN .u64) sp:=by
 rintro k b ⟨hk,hb,tR,hi⟩;rcases hk with rfl |rfl
 ·exact gen (.inl rfl) _ Aa.aUK (by omega) (by omega) (by simp[kf]) (by simp[kf]) (by simp[kI,kf]) b hb hi
 ·exact gen (.inr rfl) _ Aa.aUL (by omega) (by omega) (by simp[kf]) (by simp[kf]) (by simp[kI,kf]) b hb hi
def aJ:dJ:=orc2 (pG (.pair (sN .u64) (.pair (sN .i64) (.pair (sN .i64) (.pair (sN .i64) (.pair (sN .u64) (sN .u64))))))) (pN .u64) sp
theorem ok:OK 177 aJ:=(dY E aE (aA aSC.ok (aA Aa.ok (aA Bz.ok (aA bEN.ok (aA Mk.ok aC))))) func177).lD rfl spec
end aDS
namespace bLH
def E:=mE [] 24 [] [(3,[0,1])] [3]
def aE:=bd f217
theorem aT:Nk E aE:=nk
def J3 a b:=lK E f217 aE 3 [qL a,bP b]
theorem start a b:aF E f217 aE [D.s (ints u32 a),D.s (sc (int i64 b))]=letI A:=some [D.s (sc (int i64 0))];aB (decide (b<0)) A (aB (decide ((a.length:Int)<=i64.wrap (b.tdiv 32))) A (bLH.J3 a b)):=eJ aT
theorem iB a b:J3 a b=letI A:=b.tdiv 32;if 0<=i64.wrap A/\i64.wrap A<(a.length:Int)then if b.tmod 32<(0:Int)then none else some [D.s (sc (int i64 (i64.wrap (fC BinOp.and u32 (a.getD (i64.wrap A).toNat 0/(↑((2:Nat)^min (b.tmod 32).toNat 32):Int)) 1))))]else none:=cJ aT
theorem aJT{x:Int}(h:0<=x)(h':x<4294967296):fC .and .u32 x 1=x%2:=by
 obtain⟨n,rfl⟩:=cGR h;rw[tY];unfold bitsI0;simp only;have e:(BitVec.ofInt u32.bits (n:Int) &&& BitVec.ofInt u32.bits 1).toNat=n%2:=by
  show(BitVec.ofInt 32 (n:Int) &&& BitVec.ofInt 32 1).toNat=_;rw[BitVec.toNat_and];have e1:(BitVec.ofInt 32 (n:Int)).toNat=n:=by simp;omega
  have e2:(BitVec.ofInt 32 1).toNat=1:=by decide
  rw[e1,e2,Nat.and_one_is_mod]
 rw[e,wrap_u32];omega
def sp(a:List Int)(i:Int):Prop×List D:=(cA a/\a.length<=1099511627776/\-9223372036854775808<=i/\i<9223372036854775808,[.s (.sc (.int .i64 (if i<0 then 0 else((val a/2^i.toNat%2:Nat):Int))))])
theorem spec:fN E f217 aE (pI .u32) (pN .i64) sp:=by
 rintro a i ⟨ha,hl,h1,h2⟩;refine(start a i).trans ?_;show _=some [D.s (.sc (.int .i64 (if i<0 then 0 else((val a/2^i.toNat%2:Nat):Int))))]
 by_cases hn:i<0
 ·rw[aM hn,if_pos hn]
 ·have t1:i.tdiv 32=i/32:=cJD (by omega);have t2:i.tmod 32=i%32:=Int.tmod_eq_emod_of_nonneg (by omega);have e1:(i/32).toNat=i.toNat/32:=by omega
  have e2:(i%32).toNat=i.toNat%32:=by omega
  rw[aL hn,if_neg hn,t1,wrap_i64 (n:=i/32),Cy i.toNat,<-Nat.div_div_eq_div_mul]
  by_cases hz:(a.length:Int)<=i/32
  ·have hv:val a/4294967296^(i.toNat/32)=0:=by
    apply cHM;exact cCM (dT ha) (eY)
   rw[aM hz,hv,Nat.zero_div];rfl
  ·have g:=ha.get (i.toNat/32);rw[aL hz,iB,t1,t2,wrap_i64 (n:=i/32),aR,aP,e1,e2,<-lU ha,iK];have em:min (i.toNat%32) 32=i.toNat%32:=by omega
   have kD:i.toNat%32<32:=cDX _ (by omega);rw[em];generalize i.toNat%32=k at *;generalize a.getD (i.toNat/32) 0=x at *;generalize val (a.drop (i.toNat/32+1))=r at *;have hp:0<2^k:=dA;have e3:(x.toNat+4294967296*r)/2^k%2=x.toNat/2^k%2:=by
    have:4294967296*r=2^k*(2*(2^(31-k)*r)):=by
     rw[show(4294967296:Nat)=2^32 from rfl,show 32=k+(1+(31-k))from by omega,cGP,cGP,cGS,cGS]
    rw[this,Nat.add_mul_div_left _ _ hp];omega
   rw[e3];have ex:x/((2^k:Nat):Int)=((x.toNat/2^k:Nat):Int):=by
    obtain⟨n,rfl⟩:=cGR g.1;rw[<-cHF];rfl
   have hle:x.toNat/2^k<=x.toNat:=Nat.div_le_self _ _;rw[ex];clear ex e3;generalize x.toNat/2^k=q at *;rw[aJT (by omega) (by omega),wrap_i64];rfl
def aJ:dJ:=orc2 (pI .u32) (pN .i64) sp
theorem ok:OK 217 aJ:=(dY E aE aC func217).lD rfl spec
end bLH
namespace Hc
def E:=mE [(217,bLH.aJ)] 29 [] [(6,[0,3]),(4,[0,3])] [6]
def aE:=bd f178
theorem aT:Nk E aE:=nk
def L4 a b:=qA E f178 aE 4 [qL a,bP b]
def J6 a b:=lK E f178 aE 6 [qL a,bP b]
def L6 a b:=qA E f178 aE 6 [qL a,bP b]
theorem start a:aF E f178 aE [D.s (ints u32 a)]=aB ((a.length:Int)==(0:Int)) (some [D.s (sc (int i64 0))]) (Hc.L4 a 0):=eJ aT
theorem nR a b:L4 a b=letI A:=b.tdiv 32;aB (decide (i64.wrap A<(a.length:Int))) (if 0<=i64.wrap A/\i64.wrap A<(a.length:Int)then aB (a.getD (i64.wrap A).toNat 0==(0:Int)) (Hc.L4 a (i64.wrap (b+32))) (Hc.J6 a b)else none) (Hc.J6 a b):=lJ aT
theorem vJ a b:J6 a b=Hc.L6 a b:=cJ aT
theorem vI a b:L6 a b=aN (cA a/\a.length<=1099511627776/\(-9223372036854775808:Int)<=b/\b<9223372036854775808) (aB ((if b<0 then(0:Int)else(↑(val a/(2:Nat)^b.toNat%2):Int))==0) (Hc.L6 a (i64.wrap (b+1))) (some [D.s (sc (int i64 b))])):=lJ aT
theorem bEX{v k:Nat}(hv:v≠0)(h:v%2^k=0):k<=tz v:=by
 have hd:=cGV v (2^k);rw[h,cCN]at hd;have hq:v/2^k≠0:=fun hq=>by rw[hq,Nat.mul_zero]at hd;omega
 have:=Me hq k;rw[hd]at this;omega
theorem lp{a:List Int}(ha:cA a)(hl:a.length<=1099511627776)(hv:val a≠0)(ht:tz (val a)<70368744177664):∀(d n:Nat),n+d=tz (val a)->L6 a (n:Int)=some [D.s (.sc (.int .i64 (tz (val a):Int)))]:=by
 have hs:=pU _ hv;intro d
 induction d with
 |zero =>
  intro n hd;have:n=tz (val a):=by omega
  subst this;rw[vI,gP ⟨ha,hl,by omega,by omega⟩,aP,cFM,bB]
 |succ d ih =>
  intro n hd;have h0:val a/2^n%2=0:=by
   have aUZ:=cGV (val a) (2^tz (val a));rw[hs.1,cCN]at aUZ;have:val a=2^n*(2*(2^d*(val a/2^tz (val a)))):=by
    have e:2^tz (val a)=2^n*(2*2^d):=by rw[<-hd,cGP,cGO,Nat.mul_comm (2^d)]
    generalize val a/2^tz (val a)=q at *;rw[<-cGS 2,<-cGS (2^n),<-e];exact aUZ.symm
   rw[this,Nat.mul_div_cancel_left _ (cEP (by decide))];omega
  rw[vI,gP ⟨ha,hl,by omega,by omega⟩,aP,cFM,h0,bJ (show((0:Nat):Int)=0 from rfl),wrap_i64];exact ih (n+1) (by omega)
theorem skip{a:List Int}(ha:cA a)(hl:a.length<=1099511627776)(hv:val a≠0)(ht:tz (val a)<70368744177664):∀(d i:Nat),i+d=a.length->val (a.take i)=0->L4 a ((32*i:Nat):Int)=some [D.s (.sc (.int .i64 (tz (val a):Int)))]:=by
 have key:∀i,val (a.take i)=0->32*i<=tz (val a)/\i<a.length:=by
  intro i h0;have kD:i<a.length:=by
   rcases Nat.lt_or_ge i a.length with h |h
   ·exact h
   ·rw[List.take_of_length_le h]at h0;exact(hv h0).elim
  refine⟨bEX hv ?_,kD⟩;have h1:=iJ a (n:=i) (by omega);rw[h0,Nat.zero_add]at h1;rw[<-Jw,h1,Nat.mul_mod_right]
 intro d
 induction d with
 |zero=>intro i hd h0;have:=key i h0;omega
 |succ d ih =>
  intro i hd h0;have hk:=key i h0;have t1:(((32*i:Nat):Int)).tdiv 32=(i:Int):=by rw[cJD (by omega)];omega
  have g:=ha.get i;rw[nR,t1,wrap_i64 (n:=(i:Int)),aM,aR,cFM]
  by_cases hc:a.getD i 0=0
  ·rw[bJ hc,wrap_i64];have:=ih (i+1) (by omega) (by rw[bM,h0,hc];simp);rw[show((32*i:Nat):Int)+32=((32*(i+1):Nat):Int) by omega];exact this
  ·rw[bB hc,vJ];exact lp ha hl hv ht (tz (val a)-32*i) (32*i) (by omega)
def sp(a:List Int):Prop×List D:=(cN a/\a.length<=1099511627776,[.s (.sc (.int .i64 (if val a=0 then 0 else(tz (val a):Int))))])
theorem spec:iS E f178 aE (pI .u32) sp:=by
 rintro a ⟨ha,hl⟩;refine(start a).trans ?_;show _=some [D.s (.sc (.int .i64 (if val a=0 then 0 else(tz (val a):Int))))]
 by_cases h0:a.length=0
 ·rw[bJ,if_pos ((cZ ha).1 h0)]
 ·have hv:val a≠0:=fun h=>h0 ((cZ ha).2 h)
  have ht:tz (val a)<70368744177664:=by
   have h1:=Jq hv;have h2:=dT ha.jA;rw[Jw]at h2;have:=(Nat.pow_lt_pow_iff_right (by decide:1<2)).1 (cIE h1 h2);omega
  rw[bB,if_neg hv];exact skip ha.jA hl hv ht a.length 0 (by omega) (by simp[val])
def aJ:dJ:=orc1 (pI .u32) sp
theorem ok:OK 178 aJ:=(dY E aE (aA bLH.ok aC) func178).oU rfl spec
end Hc
namespace Hi
def E:=mE [(177,aDS.aJ),(178,Hc.aJ),(180,bJC.aJ),(179,Mk.aJ)] 25 [] [] []
def aE:=bd f130
theorem aT:Nk E aE:=nk
theorem start a c d e f g b:aF E f130 aE [D.agg [sc (int u64 a),sc (int i64 c),sc (int i64 d),sc (int i64 e),sc (int u64 f),sc (int u64 g)],D.s (sc (int u64 b))]=letI B:=(a,c,d,e,f,g);letI A:=zs (decide (a<=b)) (nT B (b%a).toNat);aN (yT B/\0<=b/\b<18446744073709551616/\b%a<=kI B+1) (aD (isNeg A) fun h=>aD (dg A.natAbs) fun i=>aN (cN i/\i.length<=1099511627776) (aD (if val i=0 then(0:Int)else(↑(tz (val i)):Int)) fun j=>aN (cA i/\i.length<=1099511627776/\j<9223372036854775808) (aD (dg (val i/(2:Nat)^j.toNat)) fun k=>aN (cA k/\k.length<=4398046511104) (some [D.agg [sc (bool (isNeg (zs h (val k)))),ints u32 (dg (zs h (val k)).natAbs)],D.s (sc (int i64 (i64.wrap (d+j))))])))):=eJ aT
def bJR(k:K6)(b:Int):Int×Int:=aQ (zs (decide (k.1<=b)) (nT k (b%k.1).toNat)) (kE k)
theorem aHS{k:K6}(hk:yT k){n:Nat}(h:n≠0):nT k n≠0:=by
 have hp:0<2^tP k n:=cEP (by decide);have hm:0<uY k n:=by
  unfold uY;have:0<kH k:=cEP (by decide);split <;> omega
 unfold nT;exact Nat.ne_of_gt (Nat.mul_pos hm hp)
theorem aLJ{k:K6}(hk:yT k){n:Nat}(h:(n:Int)<kI k):bl (nT k n)<=2200:=by
 have hm:uY k n<2^53/\tP k n<=2046:=by
  unfold uY tP;rcases hk with rfl |rfl
  ·have e:kH (kf true)=4503599627370496:=rfl;have e2:kI (kf true)=9218868437227405312:=rfl;rw[e2]at h;rw[e];constructor
   ·split <;> omega
   ·omega
  ·have e:kH (kf false)=8388608:=rfl;have e2:kI (kf false)=2139095040:=rfl;rw[e2]at h;rw[e];constructor
   ·split <;> omega
   ·omega
 unfold nT;refine dP.2 ?_;have h1:uY k n*2^tP k n<2^53*2^tP k n:=Nat.mul_lt_mul_of_pos_right hm.1 (cEP (by decide));rw[<-cGP]at h1;exact cCM h1 (Nat.pow_le_pow_right (by decide) (by omega))
def sp(k:K6)(b:Int):Prop×List D:=(yT k/\(0<=b/\b<18446744073709551616)/\b%k.1<kI k/\b%k.1≠0,[zD (bJR k b).1,.s (.sc (.int .i64 (bJR k b).2))])
theorem spec:fN E f130 aE (pG (.pair (sN .u64) (.pair (sN .i64) (.pair (sN .i64) (.pair (sN .i64) (.pair (sN .u64) (sN .u64))))))) (pN .u64) sp:=by
 rintro k b ⟨hk,hb,hs,h0⟩;have pE:0<k.1:=by rcases hk with rfl |rfl <;> decide
 have Ny:0<=b%k.1:=cKT _ (by omega);have hE:-1074<=kE k/\kE k<=0:=by rcases hk with rfl |rfl <;> decide
 refine(start k.1 k.2.1 k.2.2.1 k.2.2.2.1 k.2.2.2.2.1 k.2.2.2.2.2 b).trans ?_;show aN (yT k/\0<=b/\b<18446744073709551616/\b%k.1<=kI k+1) _=_;rw[gP ⟨hk,hb.1,hb.2,by omega⟩];show aD (isNeg (zs (decide (k.1<=b)) (nT k (b%k.1).toNat))) (fun y0=>aD (dg (zs (decide (k.1<=b)) (nT k (b%k.1).toNat)).natAbs) _)=_;unfold sp bJR;dsimp only;have hn:=aHS hk (n:=(b%k.1).toNat) (by omega);have Zf:=aLJ hk (n:=(b%k.1).toNat) (by omega);show _=some [zD (aQ (zs (decide (k.1<=b)) (nT k (b%k.1).toNat)) (kE k)).1,D.s (S.sc (Value.int .i64 (aQ (zs (decide (k.1<=b)) (nT k (b%k.1).toNat)) (kE k)).2))];have e3:k.2.2.1=kE k:=rfl;rw[e3];generalize nT k (b%k.1).toNat=n at *;generalize decide (k.1<=b)=neg at *;generalize kE k=x at *;have ht:=Dw hn;have hl:=Bk Zf;have hd:=Et n (2^tz n);have hq:n/2^tz n≠0:=by have:=(pU _ hn).2;intro h;rw[h]at this;omega
 rw[aYM,kS,Ho,decide_eq_true hn,Bool.and_true,gP ⟨aY _,by omega⟩,bD,if_neg hn,vl,gP ⟨gG _,by omega,by omega⟩,vl,gP ⟨gG _,by rw[cFM];omega⟩,bD,cFM,wrap_i64 (n:=x+(tz n:Int))];unfold aQ;rw[if_neg (fun h=>hn (Fo.1 h))];simp only[kS];rw[aLD (b:=neg) (cEP (n:=tz n) (show 0<2 by decide)) (pU _ hn).1];unfold zD;rw[kS]
def aJ:dJ:=orc2 (pG (.pair (sN .u64) (.pair (sN .i64) (.pair (sN .i64) (.pair (sN .i64) (.pair (sN .u64) (sN .u64))))))) (pN .u64) sp
theorem ok:OK 130 aJ:=(dY E aE (aA aDS.ok (aA Hc.ok (aA bJC.ok (aA Mk.ok aC)))) func130).lD rfl spec
end Hi
namespace Add
def E:=mE [(218,Norm.aJ)] 63 [62] [(4,[0,1,5,6,7]),(6,[0,1,5,6,7]),(8,[0,1,5,6,7]),(10,[0,1,5,6,7])] [6,8,10]
def aE:=bd f184
theorem aT:Nk E aE:=nk
def L4 a b (c:Nat) (d:List Int) f g:=qA E f184 aE 4 [qL a,qL b,(A.v (V.one (L.buf 2 c)),some { e:=(71:Nat),cont:=rJ.ints u32 d }),dM f,bP g]
def J6 a b (c:Nat) (d:List Int) f g:=lK E f184 aE 6 [qL a,qL b,(A.v (V.one (L.buf 2 c)),some { e:=(71:Nat),cont:=rJ.ints u32 d }),dM f,bP g]
def J8 a b (c:Nat) (d:List Int) f g:=lK E f184 aE 8 [qL a,qL b,(A.v (V.one (L.buf 2 c)),some { e:=(71:Nat),cont:=rJ.ints u32 d }),dM f,bP g]
def aSR a b (c:Nat) (d:List Int) f g:=lK E f184 aE 10 [qL a,qL b,(A.v (V.one (L.buf 2 c)),some { e:=(71:Nat),cont:=rJ.ints u32 d }),dM f,bP g]
theorem start a b:aF E f184 aE [D.s (ints u32 a),D.s (ints u32 b)]=letI A:=if(b.length:Int)>(a.length:Int)then(b.length:Int)else(a.length:Int);if(0:Int)<=(0:Int)/\0<=i64.wrap (A+1)/\i64.wrap (A+1)<=8796093022208 then Add.L4 a b 0 (cDS 0 (0:Int)) 0 0 else none:=eJ aT
theorem nR a b c d e f:L4 a b c d e f=letI A:=Add.J6 a b c d e f;aB (decide (f<(a.length:Int))) A (aB (decide (f<(b.length:Int))) A (aB (decide (0<e)) A (aN (cA d/\d.length<=4398046511104) (some [D.own 71 u32 (dg (val d))])))):=lJ aT
theorem vJ a b c d e f:J6 a b c d e f=aB (decide (f<(a.length:Int))) (if 0<=f/\f<(a.length:Int)then Add.J8 a b c d (u64.wrap (e+u64.wrap (a.getD f.toNat 0))) f else none) (Add.J8 a b c d e f):=cJ aT
theorem Aj a b c d e f:J8 a b c d e f=aB (decide (f<(b.length:Int))) (if 0<=f/\f<(b.length:Int)then Add.aSR a b c d (u64.wrap (e+u64.wrap (b.getD f.toNat 0))) f else none) (Add.aSR a b c d e f):=cJ aT
theorem aED a b c d e f:aSR a b c d e f=letI A:=fC BinOp.and u64 e 4294967295;letI B:=d.length+[u32.wrap A].length;if(0:Nat)<[u32.wrap A].length/\(B:Int)<=(8796093022208:Int)then Add.L4 a b B (d ++ [u32.wrap A]) (e/4294967296) (i64.wrap (f+1))else none:=cJ aT
theorem step{a b xs:List Int}{c:Int}{i:Nat}(ha:cA a)(hb:cA b)(Ev:xs.length=i)(hi:i<4398046511104)(h0:0<=c)(h1:c<=1)(hc:i<a.length\/i<b.length\/0<c) :
  L4 a b i xs c i=L4 a b (i+1) (xs ++ [(c+a.getD i 0+b.getD i 0)%4294967296]) ((c+a.getD i 0+b.getD i 0)/4294967296) ((i+1:Nat):Int):=by
 have g1:=ha.get i;have g2:=hb.get i;have e':((i:Int)).toNat=i:=cFM i;have bIE:∀s:Int,0<=s->s<18446744073709551616->aSR a b i xs s i=L4 a b (i+1) (xs ++ [s%4294967296]) (s/4294967296) ((i+1:Nat):Int):=by
  intro s hs rW;rw[aED,oO hs rW,if_pos ⟨by simp,by simp;omega⟩,wrap_u32,cQN _ (Int.dvd_refl _),wrap_i64,Ev];rfl
 have bTL:∀s:Int,0<=s->s<8589934592->J8 a b i xs s i=aSR a b i xs (s+b.getD i 0) i:=by
  intro s hs rW;rw[Aj]
  by_cases h:i<b.length
  ·rw[aM,aR,e',wrap_u64 (n:=b.getD i 0),wrap_u64]
  ·rw[aL,getD_none (a:=b) (by omega),cLW]
 have bPM:J6 a b i xs c i=L4 a b (i+1) (xs ++ [(c+a.getD i 0+b.getD i 0)%4294967296]) ((c+a.getD i 0+b.getD i 0)/4294967296) ((i+1:Nat):Int):=by
  rw[vJ]
  by_cases h:i<a.length
  ·rw[aM,aR,e',wrap_u64 (n:=a.getD i 0),wrap_u64,bTL _ (by omega) (by omega),bIE _ (by omega) (by omega)]
  ·rw[aL,getD_none (a:=a) (by omega),cLW,bTL _ (by omega) (by omega),bIE _ (by omega) (by omega)]
 rw[nR]
 by_cases h:i<a.length
 ·rw[aM,bPM]
 ·rw[aL]
  by_cases h':i<b.length
  ·rw[aM,bPM]
  ·rw[aL,aM,bPM]
theorem L{a b:List Int}(ha:cA a)(hb:cA b)(aXT:a.length<=1099511627776)(bNX:b.length<=1099511627776):∀(d i:Nat) (xs:List Int) (c:Int),cA xs->xs.length=i->0<=c->c<=1 ->
  i+d=max a.length b.length+1->(d=0->c=0)->val xs+4294967296^i*c.toNat=val (a.take i)+val (b.take i) ->
  L4 a b i xs c i=some [D.own uF .u32 (dg (val a+val b))]:=by
 intro d
 induction d with
 |zero =>
  intro i xs c hx Ev h0 h1 hd hc hv;have hc:=hc rfl;subst hc;rw[nR,aL,aL,aL,gP ⟨hx,by omega⟩];rw[bW (by omega),bW (by omega)]at hv;simp at hv;rw[hv]
 |succ d ih =>
  intro i xs c hx Ev h0 h1 hd hc hv
  by_cases bKK:i<a.length\/i<b.length\/0<c
  ·have g1:=ha.get i;have g2:=hb.get i;rw[step ha hb Ev (by omega) h0 h1 bKK];refine ih (i+1) _ _ (mA hx (by omega)) (by simp[Ev]) (by omega) (by omega) (by omega) (fun hd0=>?_) ?_
   ·have:¬i<a.length:=by omega
    have:¬i<b.length:=by omega
    rw[getD_none (a:=a) (by omega),getD_none (a:=b) (by omega)];omega
   ·rw[lT,bM,bM,Ev,cGO,cGS];generalize a.getD i 0=x at *;generalize b.getD i 0=y at *;generalize 4294967296^i=B at *;have e:4294967296*((c+x+y)/4294967296).toNat+((c+x+y)%4294967296).toNat=c.toNat+x.toNat+y.toNat:=by omega
    have e2:B*(4294967296*((c+x+y)/4294967296).toNat)+B*((c+x+y)%4294967296).toNat=B*c.toNat+B*x.toNat+B*y.toNat:=by
     rw[<-cGQ,e,cGQ,cGQ]
    omega
  ·have:c=0:=by omega
   subst this;rw[nR,aL,aL,aL,gP ⟨hx,by omega⟩];rw[bW (by omega),bW (by omega)]at hv;simp at hv;rw[hv]
def sp(a b:List Int):Prop×List D:=(cA a/\cA b/\a.length<=1099511627776/\b.length<=1099511627776,[.own uF .u32 (dg (val a+val b))])
theorem spec:fN E f184 aE (pI .u32) (pI .u32) sp:=by
 rintro a b ⟨ha,hb,h1,h2⟩;refine(start a b).trans ?_;rw[if_pos]
 ·exact L ha hb h1 h2 (max a.length b.length+1) 0 [] 0 mN rfl (by omega) (by omega) (by omega) (fun _=>rfl) (by simp[val])
 ·refine⟨by omega,?_,?_⟩ <;> rw[wrap_i64 ?_ ?_] <;> split <;> omega
def aJ:dJ:=orc2 (pI .u32) (pI .u32) sp
theorem ok:OK 184 aJ:=(dY E aE (aA Norm.ok aC) func184).lD rfl spec
end Add
namespace aWO
def E:=mE [] 41 [] [(6,[0,1,5])] []
def aE:=bd f246
theorem aT:Nk E aE:=nk
def L6 a b c:=qA E f246 aE 6 [qL a,qL b,bP c]
theorem start a b:aF E f246 aE [D.s (ints u32 a),D.s (ints u32 b)]=letI A:=(a.length:Int);aB (A !=(b.length:Int)) (aB (decide (A<(b.length:Int))) (some [D.s (sc (int i64 (-1:Int)))]) (some [D.s (sc (int i64 1))])) (aWO.L6 a b (i64.wrap (A-(1:Int)))):=eJ aT
theorem vI a b c:L6 a b c=aB (decide (0<=c)) (if 0<=c/\c<(a.length:Int)then if 0<=c/\c<(b.length:Int)then aB (decide (a.getD c.toNat 0<b.getD c.toNat 0)) (some [D.s (sc (int i64 (-1:Int)))]) (if 0<=c/\c<(a.length:Int)then if 0<=c/\c<(b.length:Int)then aB (decide (b.getD c.toNat 0<a.getD c.toNat 0)) (some [D.s (sc (int i64 1))]) (aWO.L6 a b (i64.wrap (c-1)))else none else none)else none else none) (some [D.s (sc (int i64 0))]):=lJ aT
theorem L{a b:List Int}(ha:cA a)(hb:cA b)(hl:a.length=b.length)(hm:a.length<=4398046511104):∀n:Nat,n<=a.length->L6 a b ((n:Int)-1)=some [D.s (.sc (.int .i64 (jG (val (a.take n)) (val (b.take n)))))]
 |0,_=>by
  rw[vI,aL];simp[jG,val]
 |n+1,h=>by
  have e:(((n+1:Nat):Int)-1)=(n:Int):=by omega
  have e':((n:Int)).toNat=n:=cFM n;rw[e,vI,aM,aR,aR,aR,aR,e',wrap_i64,L ha hb hl hm n (by omega)];have h1:=ha.get n;have h2:=hb.get n;have l1:=iG ha n;have l2:=iG hb n;rw[bM,bM];generalize a.getD n 0=x at *;generalize b.getD n 0=y at *;generalize val (a.take n)=u at *;generalize val (b.take n)=v at *;generalize 4294967296^n=B at *
  by_cases aSL:x<y
  ·rw[aM aSL];have:B*x.toNat+B<=B*y.toNat:=by
    have:B*(x.toNat+1)<=B*y.toNat:=cED _ (by omega);rw[cGQ]at this;omega
   unfold jG;rw[aR]
  ·rw[aL aSL]
   by_cases bMO:y<x
   ·rw[aM bMO];have:B*y.toNat+B<=B*x.toNat:=by
     have:B*(y.toNat+1)<=B*x.toNat:=cED _ (by omega);rw[cGQ]at this;omega
    unfold jG;rw[aP,aR]
   ·rw[aL bMO];have:x=y:=by omega
    subst this;rw[Zy]
def sp(a b:List Int):Prop×List D:=(cN a/\cN b/\a.length<=4398046511104/\b.length<=4398046511104,[.s (.sc (.int .i64 (jG (val a) (val b))))])
theorem spec:fN E f246 aE (pI .u32) (pI .u32) sp:=by
 rintro a b ⟨ha,hb,h1,h2⟩;refine(start a b).trans ?_;show _=some [D.s (.sc (.int .i64 (jG (val a) (val b))))]
 by_cases hl:a.length=b.length
 ·rw[gR,wrap_i64,L ha.jA hb.jA hl h1 a.length (cBP _),bW (cBP _),bW (by omega)]
 ·rw[oM]
  by_cases kD:a.length<b.length
  ·have:=oK ha.jA hb kD;rw[aM];unfold jG;rw[if_pos this]
  ·have:=oK hb.jA ha (by omega);rw[aL];unfold jG;rw[aP,if_pos this]
def aJ:dJ:=orc2 (pI .u32) (pI .u32) sp
theorem ok:OK 246 aJ:=(dY E aE aC func246).lD rfl spec
end aWO
namespace Sub
def E:=mE [(218,Norm.aJ),(185,Bz.aJ),(246,aWO.aJ)] 55 [14,54] [(6,[0,1,5,6,7]),(11,[0,1,5,7,8])] [11]
def aE:=bd f247
theorem aT:Nk E aE:=nk
def L6 a b (c:Nat) (d:List Int) f g:=qA E f247 aE 6 [qL a,qL b,(A.v (V.one (L.buf 2 c)),some { e:=(71:Nat),cont:=rJ.ints u32 d }),dM f,bP g]
def aBJ a b (c:Nat) (d:List Int) f g:=lK E f247 aE 11 [qL a,qL b,(A.v (V.one (L.buf 2 c)),some { e:=(71:Nat),cont:=rJ.ints u32 d }),bP f,dM g]
theorem start a b:aF E f247 aE [D.s (ints u32 a),D.s (ints u32 b)]=aN (cN a/\cN b/\a.length<=4398046511104/\b.length<=4398046511104) (aB (decide (jG (val a) (val b)<=0)) (aN ((0:Int)<=(0:Int)/\(0:Int)<(18446744073709551616:Int)) (some [D.own 71 u32 (dg 0)])) (if(0:Int)<=(0:Int)/\0<=(a.length:Int)/\(a.length:Int)<=(8796093022208:Int)then Sub.L6 a b 0 (cDS 0 (0:Int)) 0 0 else none)):=eJ aT
theorem vI a b c d e f:L6 a b c d e f=aB (decide (f<(a.length:Int))) (aB (decide (f<(b.length:Int))) (if 0<=f/\f<(b.length:Int)then Sub.aBJ a b c d f (u64.wrap (e+u64.wrap (b.getD f.toNat 0)))else none) (Sub.aBJ a b c d f e)) (aN (cA d/\d.length<=4398046511104) (some [D.own 71 u32 (dg (val d))])):=lJ aT
theorem Fi a b c d e f:aBJ a b c d e f=letI C:=a.getD e.toNat 0;letI B:=u64.wrap (u64.wrap C-f);letI G:=d.length+[u32.wrap B].length;letI A:=u64.wrap (u64.wrap (u64.wrap C+4294967296)-f);letI F:=d.length+[u32.wrap A].length;if 0<=e/\e<(a.length:Int)then aB (decide (u64.wrap C<f)) (if(0:Nat)<[u32.wrap A].length/\(F:Int)<=(8796093022208:Int)then Sub.L6 a b F (d ++ [u32.wrap A]) 1 (i64.wrap (e+1))else none) (if(0:Nat)<[u32.wrap B].length/\(G:Int)<=(8796093022208:Int)then Sub.L6 a b G (d ++ [u32.wrap B]) 0 (i64.wrap (e+1))else none)else none:=cJ aT
theorem step{a b xs:List Int}{o:Int}{i:Nat}(ha:cA a)(hb:cA b)(Ev:xs.length=i)(hi:i<a.length)(aXT:a.length<=4398046511104)(h0:0<=o)(h1:o<=1) :
  L6 a b i xs o i=L6 a b (i+1) (xs ++ [(a.getD i 0-(o+b.getD i 0))%4294967296]) (if a.getD i 0<o+b.getD i 0 then 1 else 0) ((i+1:Nat):Int):=by
 have g1:=ha.get i;have g2:=hb.get i;have e':((i:Int)).toNat=i:=cFM i;have hJ:∀t:Int,0<=t->t<=4294967296->aBJ a b i xs i t=L6 a b (i+1) (xs ++ [(a.getD i 0-t)%4294967296]) (if a.getD i 0<t then 1 else 0) ((i+1:Nat):Int):=by
  intro t ht ht';rw[Fi,aR,e',wrap_u64 (n:=a.getD i 0),wrap_u64 (n:=a.getD i 0+4294967296)]
  by_cases h:a.getD i 0<t
  ·rw[aM h,if_pos ⟨by simp,by simp;omega⟩,if_pos h,wrap_u64 (n:=a.getD i 0+4294967296-t),wrap_u32,wrap_i64,Ev,show(a.getD i 0+4294967296-t)%4294967296=(a.getD i 0-t)%4294967296 from by omega];rfl
  ·rw[aL h,if_pos ⟨by simp,by simp;omega⟩,if_neg h,wrap_u64 (n:=a.getD i 0-t),wrap_u32,wrap_i64,Ev];rfl
 rw[vI,aM]
 by_cases h:i<b.length
 ·rw[aM,aR,e',wrap_u64 (n:=b.getD i 0),wrap_u64,hJ _ (by omega) (by omega)]
 ·rw[aL,getD_none (a:=b) (by omega),cLW,hJ _ (by omega) (by omega)]
theorem L{a b:List Int}(ha:cA a)(hb:cA b)(aXT:a.length<=4398046511104)(Qk:b.length<=a.length)(aVB:val b<=val a):∀(d i:Nat) (xs:List Int) (o:Int),cA xs->xs.length=i->0<=o->o<=1 ->
  i+d=a.length->val xs+val (b.take i)=val (a.take i)+4294967296^i*o.toNat ->
  L6 a b i xs o i=some [D.own uF .u32 (dg (val a-val b))]:=by
 intro d
 induction d with
 |zero =>
  intro i xs o hx Ev h0 h1 hd hv;rw[vI,aL,gP ⟨hx,by omega⟩];rw[bW (by omega),bW (by omega)]at hv;have bMS:=dT hx;rw[Ev]at bMS;have:o=0:=by
   by_cases ho:o=0
   ·exact ho
   ·exfalso;have:o=1:=by omega
    subst this;have h1:(1:Int).toNat=1:=rfl;rw[h1,Nat.mul_one]at hv;omega
  subst this;simp at hv;rw[show val xs=val a-val b from by omega]
 |succ d ih =>
  intro i xs o hx Ev h0 h1 hd hv;have g1:=ha.get i;have g2:=hb.get i;rw[step ha hb Ev (by omega) aXT h0 h1];refine ih (i+1) _ _ (mA hx (by omega)) (by simp[Ev]) (by split <;> omega) (by split <;> omega) (by omega) ?_;rw[lT,bM,bM,Ev,cGO,cGS];generalize a.getD i 0=x at *;generalize b.getD i 0=y at *;have e:((x-(o+y))%4294967296).toNat+y.toNat+o.toNat=x.toNat+4294967296*(if x<o+y then 1 else 0:Int).toNat:=by split <;> omega
  generalize 4294967296^i=B at *;have e2:=congrArg (B*·) e;simp only[cGQ]at e2;omega
def sp(a b:List Int):Prop×List D:=(cN a/\cN b/\a.length<=4398046511104/\b.length<=4398046511104,[.own uF .u32 (dg (val a-val b))])
theorem spec:fN E f247 aE (pI .u32) (pI .u32) sp:=by
 rintro a b ⟨ha,hb,h1,h2⟩;refine(start a b).trans ?_;show _=some [D.own uF .u32 (dg (val a-val b))];rw[gP ⟨ha,hb,h1,h2⟩]
 by_cases hc:val a<=val b
 ·rw[aM (by unfold jG;split <;> (try split) <;> omega),gP ⟨by omega,by omega⟩,show val a-val b=0 from by omega]
 ·have hl:b.length<=a.length:=by
   rcases Nat.lt_or_ge a.length b.length with h |h
   ·have:=oK ha.jA hb h;omega
   ·exact h
  rw[aL (by unfold jG;rw[aP,aR];omega),if_pos ⟨by omega,by omega,by omega⟩];exact L ha.jA hb.jA h1 hl (by omega) a.length 0 [] 0 mN rfl (by omega) (by omega) (by omega) (by simp[val])
def aJ:dJ:=orc2 (pI .u32) (pI .u32) sp
theorem ok:OK 247 aJ:=(dY E aE (aA Norm.ok (aA Bz.ok (aA aWO.ok aC))) func247).lD rfl spec
end Sub
namespace bCQ
def E:=mE [(179,Mk.aJ),(184,Add.aJ),(246,aWO.aJ),(247,Sub.aJ)] 40 [] [] []
def aE:=bd f220
theorem aT:Nk E aE:=nk
theorem start a b c d:aF E f220 aE [D.agg [sc (bool a),ints u32 b],D.agg [sc (bool c),ints u32 d]]=letI F:=dg (val d-val b);letI C:=dg (val b-val d);letI B:=dg (val b+val d);letI A:=cN b/\cN d/\b.length<=4398046511104/\d.length<=4398046511104;aB (a==c) (aN (cA b/\cA d/\b.length<=1099511627776/\d.length<=1099511627776) (aN (cA B/\B.length<=4398046511104) (some [D.agg [sc (bool (isNeg (zs a (val B)))),ints u32 (dg (zs a (val B)).natAbs)]]))) (aN A (aB (decide (0<=jG (val b) (val d))) (aN A (aN (cA C/\C.length<=4398046511104) (some [D.agg [sc (bool (isNeg (zs a (val C)))),ints u32 (dg (zs a (val C)).natAbs)]]))) (aN (cN d/\cN b/\d.length<=4398046511104/\b.length<=4398046511104) (aN (cA F/\F.length<=4398046511104) (some [D.agg [sc (bool (isNeg (zs c (val F)))),ints u32 (dg (zs c (val F)).natAbs)]]))))):=eJ aT
def sp(x y:Bool×List Int):Prop×List D:=(yS x/\yS y,[zD (zv x+zv y)])
theorem spec:fN E f220 aE Fk Fk sp:=by
 intro x y h;refine(start x.1 x.2 y.1 y.2).trans ?_;obtain⟨hx,hy⟩:=h;have l1:=hx.len;have l2:=hy.len;have l3:=Nq (val x.2) (val y.2);have l4:=Es (val x.2) (val y.2);have l5:=Es (val y.2) (val x.2);rw[vU hx.1,vU hy.1]at l3;rw[vU hx.1]at l4;rw[vU hy.1]at l5;simp only[bD];show _=some [zD (zv x+zv y)];rw[gP ⟨hx.1.jA,hy.1.jA,by omega,by omega⟩,gP ⟨gG _,by omega⟩,gP ⟨hx.1,hy.1,by omega,by omega⟩,gP ⟨hx.1,hy.1,by omega,by omega⟩,gP ⟨gG _,by omega⟩,gP ⟨hy.1,hx.1,by omega,by omega⟩,gP ⟨gG _,by omega⟩]
 by_cases he:x.1=y.1
 ·rw[aRD (by rw[he];simp)];have:zs x.1 (val x.2+val y.2)=zv x+zv y:=by
   unfold zv zs;rw[<-he];cases x.1 <;> simp <;> omega
  rw[this];rfl
 ·rw[Pf (by simpa using he)]
  by_cases hc:val y.2<=val x.2
  ·rw[aM (Lu.2 hc)];have:zs x.1 (val x.2-val y.2)=zv x+zv y:=by
    unfold zv zs;cases h1:x.1 <;> cases h2:y.1 <;> simp_all <;> omega
   rw[this];rfl
  ·rw[aL (fun h=>hc (Lu.1 h))];have:zs y.1 (val y.2-val x.2)=zv x+zv y:=by
    unfold zv zs;cases h1:x.1 <;> cases h2:y.1 <;> simp_all <;> omega
   rw[this];rfl
def aJ:dJ:=orc2 Fk Fk sp
theorem ok:OK 220 aJ:=(dY E aE (aA Mk.ok (aA Add.ok (aA aWO.ok (aA Sub.ok aC)))) func220).lD rfl spec
end bCQ
namespace bDH
def E:=mE [(179,Mk.aJ)] 9 [] [] []
def aE:=bd f221
theorem aT:Nk E aE:=nk
theorem start a b:aF E f221 aE [D.agg [sc (bool a),ints u32 b]]=aN (cA b/\b.length<=4398046511104) (some [D.agg [sc (bool (isNeg (zs (!a) (val b)))),ints u32 (dg (zs (!a) (val b)).natAbs)]]):=eJ aT
def sp(x:Bool×List Int):Prop×List D:=(yS x,[zD (-zv x)])
theorem spec:iS E f221 aE Fk sp:=by
 intro x h;refine(start x.1 x.2).trans ((gP ⟨h.1.jA,by have:=h.len;omega⟩).trans ?_);show _=some [zD (-zv x)];have:zs (!x.1) (val x.2)=-zv x:=by unfold zv zs;cases x.1 <;> simp
 rw[this];rfl
def aJ:dJ:=orc1 Fk sp
theorem ok:OK 221 aJ:=(dY E aE (aA Mk.ok aC) func221).oU rfl spec
end bDH
namespace bCO
def E:=mE [(220,bCQ.aJ),(221,bDH.aJ)] 9 [] [] []
def aE:=bd f181
theorem aT:Nk E aE:=nk
theorem start a b c d:aF E f181 aE [D.agg [sc (bool a),ints u32 b],D.agg [sc (bool c),ints u32 d]]=letI A:=(isNeg (-zv (c,d)),dg (-zv (c,d)).natAbs);aN (yS (c,d)) (aN (yS (a,b)/\yS A) (some [D.agg [sc (bool (isNeg (zv (a,b)+zv A))),ints u32 (dg (zv (a,b)+zv A).natAbs)]])):=eJ aT
def sp(x y:Bool×List Int):Prop×List D:=(yS x/\yS y,[zD (zv x-zv y)])
theorem spec:fN E f181 aE Fk Fk sp:=by
 intro x y h;refine(start x.1 x.2 y.1 y.2).trans ?_;obtain⟨hx,hy⟩:=h;have l2:=hy.len;rw[gP hy,gP ⟨hx,aBK (by rw[Int.natAbs_neg,Tm,vU hy.1];exact l2)⟩,Rq];show _=some [zD (zv x-zv y)];rw[Int.sub_eq_add_neg];rfl
def aJ:dJ:=orc2 Fk Fk sp
theorem ok:OK 181 aJ:=(dY E aE (aA bCQ.ok (aA bDH.ok aC)) func181).lD rfl spec
end bCO
namespace Mul
def E:=mE [(218,Norm.aJ)] 70 [69] [(8,[0,1,5,6,7,8,9]),(3,[0,1,5,6])] []
def aE:=bd f222
theorem aT:Nk E aE:=nk
def L3 a b (c:Nat) (d:List Int) f:=qA E f222 aE 3 [qL a,qL b,(A.v (V.one (L.buf 2 c)),some { e:=(71:Nat),cont:=rJ.ints u32 d }),bP f]
def L8 a b (c:Nat) (d:List Int) f g h i:=qA E f222 aE 8 [qL a,qL b,(A.v (V.one (L.buf 2 c)),some { e:=(71:Nat),cont:=rJ.ints u32 d }),bP f,dM g,dM h,bP i]
theorem start a b:aF E f222 aE [D.s (ints u32 a),D.s (ints u32 b)]=letI A:=(a.length:Int);letI B:=A+(b.length:Int);if 0<=i64.wrap B/\i64.wrap B<=i64.wrap B/\i64.wrap B<=8796093022208 then Mul.L3 a b (i64.wrap B).toNat (cDS (i64.wrap B).toNat (0:Int)) 0 else none:=eJ aT
theorem xH a b c d e:L3 a b c d e=aB (decide (e<(a.length:Int))) (if 0<=e/\e<(a.length:Int)then Mul.L8 a b c d e 0 (u64.wrap (a.getD e.toNat 0)) 0 else none) (aN (cA d/\d.length<=4398046511104) (some [D.own 71 u32 (dg (val d))])):=lJ aT
theorem Cp a b c d e f g h:L8 a b c d e f g h=letI B:=(b.length:Int);letI A:=f+u64.wrap (u64.wrap (d.getD (i64.wrap (e+h)).toNat 0)+u64.wrap (g*u64.wrap (b.getD h.toNat 0)));aB (decide (h<B)) (if 0<=i64.wrap (e+h)/\i64.wrap (e+h)<(c:Int)then if 0<=h/\h<B then if 0<=i64.wrap (e+h)/\i64.wrap (e+h)<(c:Int)then Mul.L8 a b c (d.set (i64.wrap (e+h)).toNat (u32.wrap (fC BinOp.and u64 (u64.wrap A) 4294967295))) e (u64.wrap A/4294967296) g (i64.wrap (h+1))else none else none else none) (if 0<=i64.wrap (e+B)/\i64.wrap (e+B)<(c:Int)then Mul.L3 a b c (d.set (i64.wrap (e+B)).toNat (u32.wrap f)) (i64.wrap (e+1))else none):=lJ aT
theorem oS{a:List Int}{n:Nat}(h:n<a.length)(d:Int):val (a.set n d)+4294967296^n*(a.getD n 0).toNat=val a+4294967296^n*d.toNat:=by
 have h1:=iJ (a.set n d) (n:=n) (by rw[cRN];omega);have h2:=iJ a (n:=n) (by omega);rw[List.take_set_of_le (cBP n),qP h]at h1;rw[iK]at h2;rw[h1,h2,cGQ,cGQ];omega
theorem Zg{a:List Int}{n m:Nat}(h:n≠m)(d:Int):(a.set n d).getD m 0=a.getD m 0:=by
 simp only[cGT];rw[List.getElem?_set_ne h]
theorem inner{a b:List Int}(hb:cA b)(aXT:a.length<=549755813888)(bNX:b.length<=549755813888){i:Nat}(hi:i<a.length){x:Int}(Qv:0<=x)(aUO:x<4294967296){V:Nat}
  (K:List Int->Option (List D)) (hK:∀p c,cA p->p.length=a.length+b.length->(0<=c/\c<4294967296)->(∀k,i+b.length<=k->p.getD k 0=0)->val p+4294967296^(i+b.length)*c.toNat=V+4294967296^i*(x.toNat*val b)->L3 a b (a.length+b.length) (p.set (i+b.length) c) ((i+1:Nat):Int)=K p) :
  ∀(d j:Nat) (p:List Int) (c:Int),cA p->p.length=a.length+b.length->0<=c->c<4294967296->(∀k,i+b.length<=k->p.getD k 0=0)->j+d=b.length ->
  val p+4294967296^(i+j)*c.toNat=V+4294967296^i*(x.toNat*val (b.take j)) ->
  ∃q,L8 a b (a.length+b.length) p (i:Int) c x (j:Int)=K q:=by
 intro d
 induction d with
 |zero =>
  intro j p c hp hl h0 h1 hz hd hv;have hj:j=b.length:=by omega
  subst hj;rw[List.take_length]at hv;rw[Cp,aL,wrap_i64 (n:=(i:Int)+(b.length:Int)),aR,wrap_u32,Int.emod_eq_of_lt h0 h1,wrap_i64 (n:=(i:Int)+1),show((i:Int)+(b.length:Int)).toNat=i+b.length by omega];exact⟨p,hK p c hp hl ⟨h0,h1⟩ hz hv⟩
 |succ d ih =>
  intro j p c hp hl h0 h1 hz hd hv;have g1:=hb.get j;have g2:=hp.get (i+j);have hm:x*b.getD j 0<=4294967295*4294967295:=by
   have h1:x*b.getD j 0<=4294967295*b.getD j 0:=Int.mul_le_mul_of_nonneg_right (by omega) g1.1;omega
  have Sp:0<=x*b.getD j 0:=Int.mul_nonneg Qv g1.1;have e':((i:Int)+(j:Int)).toNat=i+j:=by omega
  rw[Cp,aM,wrap_i64 (n:=(i:Int)+(j:Int)),aR,aR,aR,e',cFM,wrap_u64 (n:=p.getD (i+j) 0),wrap_u64 (n:=b.getD j 0),wrap_u64 (n:=x*b.getD j 0),wrap_u64 (n:=p.getD (i+j) 0+x*b.getD j 0),wrap_u64 (n:=c+(p.getD (i+j) 0+x*b.getD j 0)),
   oO (by omega) (by omega),wrap_u32,cQN _ (Int.dvd_refl _),wrap_i64 (n:=(j:Int)+1)]
  have hs:=oS (a:=p) (n:=i+j) (by omega) ((c+(p.getD (i+j) 0+x*b.getD j 0))%4294967296);refine ih (j+1) _ _ (nH hp (by omega)) (by rw[cRN];exact hl) (by omega) (by omega) (fun k hk=>by rw[Zg (by omega)];exact hz k hk) (by omega) ?_;rw[bM,cGQ];have et:(x*b.getD j 0).toNat=x.toNat*(b.getD j 0).toNat:=Int.toNat_mul Qv g1.1;have e:4294967296*((c+(p.getD (i+j) 0+x*b.getD j 0))/4294967296).toNat+((c+(p.getD (i+j) 0+x*b.getD j 0))%4294967296).toNat=c.toNat+((p.getD (i+j) 0).toNat+x.toNat*(b.getD j 0).toNat):=by rw[<-et];omega
  have pw:4294967296^(i+(j+1))=4294967296^(i+j)*4294967296:=by rw[<-Nat.add_assoc,cGO]
  have pi:4294967296^i*(x.toNat*(4294967296^j*(b.getD j 0).toNat))=4294967296^(i+j)*(x.toNat*(b.getD j 0).toNat):=by
   rw[cGP,Nat.mul_left_comm x.toNat,<-cGS]
  rw[pw,cGQ,pi];generalize 4294967296^(i+j)=B at *;generalize (c+(p.getD (i+j) 0+x*b.getD j 0))/4294967296=u at *;generalize (c+(p.getD (i+j) 0+x*b.getD j 0))%4294967296=w at *;have e2:=congrArg (B*·) e;rw[cGQ,cGQ,cGQ]at e2;rw[cGS];omega
theorem outer{a b:List Int}(ha:cA a)(hb:cA b)(aXT:a.length<=549755813888)(bNX:b.length<=549755813888):∀(d i:Nat) (p:List Int),cA p->p.length=a.length+b.length->(∀k,i+b.length<=k->p.getD k 0=0)->i+d=a.length->val p=val (a.take i)*val b ->
  L3 a b (a.length+b.length) p (i:Int)=some [D.own uF .u32 (dg (val a*val b))]:=by
 intro d
 induction d with
 |zero =>
  intro i p hp hl hz hd hv;rw[xH,aL,gP ⟨hp,by omega⟩,hv,bW (by omega)]
 |succ d ih =>
  intro i p hp hl hz hd hv;have g:=ha.get i;rw[xH,aM,aR,cFM,wrap_u64 (n:=a.getD i 0)];obtain⟨q,hq⟩:=inner (a:=a) (b:=b) hb aXT bNX (i:=i) (by omega) g.1 g.2 (V:=val p) (fun _=>some [D.own uF .u32 (dg (val a*val b))]) (by
   intro q c hq bKB hc bSM bXF;have g3:=bSM (i+b.length) (cBP _);have hs:=oS (a:=q) (n:=i+b.length) (by omega) c;rw[g3,show(0:Int).toNat=0 from rfl,Nat.mul_zero,cCN,bXF]at hs;refine ih (i+1) _ (nH hq hc) (by rw[cRN];exact bKB) (fun k hk=>by rw[Zg (by omega)];exact bSM k (by omega)) (by omega) ?_;rw[hs,hv,bM,Nat.add_mul,cGS]) b.length 0 p 0 hp hl (by omega) (by omega) hz (by omega) (by simp[val])
  exact hq
def sp(a b:List Int):Prop×List D:=(cA a/\cA b/\a.length<=549755813888/\b.length<=549755813888,[.own uF .u32 (dg (val a*val b))])
theorem spec:fN E f222 aE (pI .u32) (pI .u32) sp:=by
 rintro a b ⟨ha,hb,h1,h2⟩;refine(start a b).trans ?_;have e:i64.wrap ((a.length:Int)+(b.length:Int))=((a.length+b.length:Nat):Int):=by rw[wrap_i64];omega
 rw[e,aR,cFM];refine outer ha hb h1 h2 a.length 0 _ (jD _) (by simp) (fun k _=>?_) (by omega) (by simp[val,jB]);simp only[cGT,List.getElem?_replicate];split <;> rfl
def aJ:dJ:=orc2 (pI .u32) (pI .u32) sp
theorem ok:OK 222 aJ:=(dY E aE (aA Norm.ok aC) func222).lD rfl spec
end Mul
namespace bCP
def E:=mE [(222,Mul.aJ),(179,Mk.aJ)] 16 [] [] []
def aE:=bd f182
theorem aT:Nk E aE:=nk
theorem start a b c d:aF E f182 aE [D.agg [sc (bool a),ints u32 b],D.agg [sc (bool c),ints u32 d]]=letI A:=dg (val b*val d);letI B:=zs (a !=c) (val A);aN (cA b/\cA d/\b.length<=549755813888/\d.length<=549755813888) (aN (cA A/\A.length<=4398046511104) (some [D.agg [sc (bool (isNeg B)),ints u32 (dg B.natAbs)]])):=eJ aT
def sp(x y:Bool×List Int):Prop×List D:=(yS x/\yS y,[zD (zv x*zv y)])
theorem spec:fN E f182 aE Fk Fk sp:=by
 rintro x y ⟨hx,hy⟩;refine(start x.1 x.2 y.1 y.2).trans ?_;have l1:=hx.len;have l2:=hy.len;have hl:(dg (val x.2*val y.2)).length<=x.2.length+y.2.length:=by
  refine dS ?_;rw[cGP];exact Nat.mul_lt_mul_of_lt_of_lt (dT hx.1.jA) (dT hy.1.jA)
 rw[gP ⟨hx.1.jA,hy.1.jA,by omega,by omega⟩,gP ⟨gG _,by omega⟩,bD];show _=some [zD (zv x*zv y)];have:zs (x.1 !=y.1) (val x.2*val y.2)=zv x*zv y:=by
  unfold zv zs;cases x.1 <;> cases y.1 <;> simp[cHN,Int.neg_mul,cKP]
 rw[this];rfl
def aJ:dJ:=orc2 Fk Fk sp
theorem ok:OK 182 aJ:=(dY E aE (aA Mul.ok (aA Mk.ok aC)) func182).lD rfl spec
end bCP
end W
namespace M
theorem aGA(v q:Nat)(hq:0<q):(-(v:Int))/(q:Int)=if v%q=0 then -((v/q:Nat):Int)else -((v/q:Nat):Int)-1:=by
 have hd:=cGV v q;have hm:=cDX v hq
 by_cases h:v%q=0
 ·rw[if_pos h];have e:-(v:Int)=(q:Int)*(-((v/q:Nat):Int)):=by
   rw[cKP,<-cHN];generalize q*(v/q)=t at *;omega
  rw[e,Int.mul_ediv_cancel_left _ (by omega)]
 ·rw[if_neg h];have e:-(v:Int)=((q-v%q:Nat):Int)+(q:Int)*(-((v/q:Nat):Int)-1):=by
   rw[Int.mul_sub,cKP,<-cHN,Int.mul_one];generalize q*(v/q)=t at *;generalize v%q=r at *;omega
  rw[e,Int.add_mul_ediv_left _ _ (by omega),Int.ediv_eq_zero_of_lt (by omega) (by omega)];omega
end M
namespace W
open Go AI M
namespace aRG
def E:=mE [] 11 [] [] []
def aE:=bd f248
theorem aT:Nk E aE:=nk
theorem start a b:aF E f248 aE [D.agg [sc (bool a),ints u32 b]]=aB ((b.length:Int)==(0:Int)) (some [D.s (sc (int i64 0))]) (aB a (some [D.s (sc (int i64 (-1:Int)))]) (some [D.s (sc (int i64 1))])):=eJ aT
def sp(x:Bool×List Int):Prop×List D:=(yS x,[.s (.sc (.int .i64 (lF (zv x) 0)))])
theorem spec:iS E f248 aE Fk sp:=by
 intro x h;refine(start x.1 x.2).trans ?_;obtain⟨h1,h2,h3⟩:=h;unfold sp;simp only
 by_cases hz:x.2.length=0
 ·have:=(cZ h1).1 hz;rw[bJ];cases hx:x.1 with
  |true=>exact(h2 hx this).elim
  |false=>rw[aLC hx,this];rfl
 ·have hv:val x.2≠0:=fun h=>hz ((cZ h1).2 h)
  rw[bB];cases hx:x.1 with
  |true=>rw[bT,aYJ hx];unfold lF;rw[aR]
  |false=>rw[bF,aLC hx];unfold lF;rw[aP,aR]
def aJ:dJ:=orc1 Fk sp
theorem ok:OK 248 aJ:=(dY E aE aC func248).oU rfl spec
end aRG
namespace Wt
def E:=mE [(185,Bz.aJ),(246,aWO.aJ),(218,Norm.aJ),(219,wX.aJ)] 98 [17,18,23,25,34,40,53,91,97] [(16,[8,9,10,11,12,13]),(11,[0,8,9,10])] []
def aE:=bd f249
theorem aT:Nk E aE:=nk
theorem start a b:aF E f249 aE [D.s (ints u32 a),D.s (ints u32 b)]=letI A:=(b.length:Int);aB (A==(0:Int)) (aN ((0:Int)<=(0:Int)/\(0:Int)<(18446744073709551616:Int)) (aN ((0:Int)<=(0:Int)/\(0:Int)<(18446744073709551616:Int)) (some [D.own 71 u32 (dg 0),D.own 71 u32 (dg 0)]))) (aN (cN a/\cN b/\a.length<=4398046511104/\b.length<=4398046511104) (aB (decide (jG (val a) (val b)<0)) (aN ((0:Int)<=(0:Int)/\(0:Int)<(18446744073709551616:Int)) (aN (cA a/\a.length<=4398046511104) (some [D.own 71 u32 (dg 0),D.own 71 u32 (dg (val a))]))) (aB (A==(1:Int)) (if(0:Int)<=(0:Int)/\0<A then aN (cA a/\a.length<=1099511627776/\0<b.getD 0 0/\b.getD 0 0<(4294967296:Int)) (aD (dg (val a/(b.getD 0 0).toNat)) fun c=>aD (↑(val a%(b.getD 0 0).toNat):Int) fun d=>aN (0<=u64.wrap d/\u64.wrap d<18446744073709551616) (some [D.own 71 u32 c,D.own 71 u32 (dg (u64.wrap d).toNat)]))else none) (if 0<=i64.wrap (A-(1:Int))/\i64.wrap (A-(1:Int))<=A/\A<=A then none else none)))):=eJ aT
def sp(a b:List Int):Prop×List D:=(cN a/\cN b/\a.length<=274877906944/\b.length=1,[.own uF .u32 (dg (val a/val b)),.own uF .u32 (dg (val a%val b))])
theorem spec:fN E f249 aE (pI .u32) (pI .u32) sp:=by
 rintro a b ⟨ha,hb,hl,Ko⟩;refine(start a b).trans ?_;have g:=hb.jA.get 0;have hz:val b≠0:=fun h=>by have:=(cZ hb).2 h;omega
 show _=some [D.own uF .u32 (dg (val a/val b)),D.own uF .u32 (dg (val a%val b))];rw[bB,gP ⟨ha,hb,by omega,by omega⟩]
 by_cases hc:val a<val b
 ·have:jG (val a) (val b)<0:=by unfold jG;rw[if_pos hc];omega
  rw[aM this,gP,gP ⟨ha.jA,by omega⟩,cHM hc,Nat.mod_eq_of_lt hc]
 have:¬jG (val a) (val b)<0:=by unfold jG;rw[if_neg hc];split <;> omega
 have hm:=cDX (val a) (show 0<val b by omega);rw[aL this];have hv:val b=(b.getD 0 0).toNat:=by
  have:=bM (a:=b) 0;rw[bW (by omega)]at this;simpa [val] using this
 rw[hv]at hm;rw[bJ,aR,gP ⟨ha.jA,by omega,by omega,g.2⟩,hv,aI,aI];generalize val a%(b.getD 0 0).toNat=r at *;rw[wrap_u64 (n:=(r:Int)),gP,cFM]
def aJ:dJ:=orc2 (pI .u32) (pI .u32) sp
theorem ok:OK 249 aJ:=(dY E aE (aA Bz.ok (aA aWO.ok (aA Norm.ok (aA wX.ok aC)))) func249).lD rfl spec
end Wt
namespace Ly
def E:=mE [(248,aRG.aJ),(249,Wt.aJ),(179,Mk.aJ),(184,Add.aJ),(185,Bz.aJ),(247,Sub.aJ)] 44 [] [(6,[3,4,5,6,7])] [6]
def aE:=bd f223
theorem aT:Nk E aE:=nk
def J6 a b c d e f:=lK E f223 aE 6 [dR 0 180 [dG a,aYO b],dR 1 180 [dG c,sc (slice none 0 0)],dR 2 180 [dG d,sc (slice none 0 0)],qL e,qL f]
theorem start a b c d:aF E f223 aE [D.agg [sc (bool a),ints u32 b],D.agg [sc (bool c),ints u32 d]]=letI C:=dg (val b/val d);letI B:=dg (val b%val d);letI A:=aN (cA C/\C.length<=4398046511104) (aN (cA B/\B.length<=4398046511104) (some [D.agg [sc (bool (isNeg (zs a (val C)))),ints u32 (dg (zs a (val C)).natAbs)],D.agg [sc (bool (isNeg (zs false (val B)))),ints u32 (dg (zs false (val B)).natAbs)]]));aN (yS (c,d)) (aB (decide (lF (zv (c,d)) 0<=(0:Int))) (some [D.agg [sc (bool false),sc (slice none 0 0)],D.agg [sc (bool false),sc (slice none 0 0)]]) (aN (cN b/\cN d/\b.length<=274877906944/\d.length=1) (aB (!a) A (aB ((B.length:Int)==(0:Int)) A (Ly.J6 c d false false C B))))):=eJ aT
theorem vJ a b c d e f:J6 a b c d e f=letI B:=dg (val b-val f);letI A:=dg (val e+val (dg 1));aN ((0:Int)<=(1:Int)/\(1:Int)<(18446744073709551616:Int)) (aN (cA e/\cA (dg 1)/\e.length<=1099511627776/\(dg 1).length<=1099511627776) (aN (cA A/\A.length<=4398046511104) (aN (cN b/\cN f/\b.length<=4398046511104/\f.length<=4398046511104) (aN (cA B/\B.length<=4398046511104) (some [D.agg [sc (bool (isNeg (zs true (val A)))),ints u32 (dg (zs true (val A)).natAbs)],D.agg [sc (bool (isNeg (zs false (val B)))),ints u32 (dg (zs false (val B)).natAbs)]]))))):=cJ aT
def sp(x y:Bool×List Int):Prop×List D:=(yS x/\yS y/\y.1=false/\y.2.length=1/\x.2.length<=274877906944,[zD (zv x/zv y),zD (zv x%zv y)])
theorem aUC(v q:Nat)(hq:0<q):(-(v:Int))%(q:Int)=if v%q=0 then 0 else((q-v%q:Nat):Int):=by
 have h:=M.aGA v q hq;have hd:=cGV v q;have hm:=cDX v hq;have he:=cKS (-(v:Int)) (q:Int);rw[h]at he
 by_cases hr:v%q=0
 ·rw[if_pos hr]at *;rw[cKP,<-cHN]at he;generalize q*(v/q)=t at *;omega
 ·rw[if_neg hr]at *;rw[Int.mul_sub,cKP,<-cHN,Int.mul_one]at he;generalize q*(v/q)=t at *;generalize v%q=r at *;omega
theorem spec:fN E f223 aE Fk Fk sp:=by
 rintro x y ⟨hx,hy,hn,hl,lx'⟩;refine(start x.1 x.2 y.1 y.2).trans ((gP hy).trans ?_);have lx:=hx.len;have hz:=cZ hy.1;obtain⟨b,a⟩:=x;obtain⟨c,d⟩:=y
 try dsimp only at *
 subst hn;have bWG:zv (false,d)=(val d:Int):=rfl;have pE:0<val d:=by
  have:val d≠0:=fun h=>by have:=hz.2 h;omega
  omega
 have hc:¬lF (zv (false,d)) 0<=0:=by
  unfold lF;rw[aP,aR];omega
 have l1:=Et (val a) (val d);have l2:=qI (Nat.mod_le (val a) (val d));have nl:(dg (val a)).length=a.length:=vU hx.1;rw[nl]at l1 l2;rw[aL hc,gP ⟨hx.1,hy.1,by omega,by omega⟩];show _=some [zD (zv (b,a)/zv (false,d)),zD (zv (b,a)%zv (false,d))];have zf:∀n:Nat,zs false n=(n:Int):=fun _=>rfl
 have zt:∀n:Nat,zs true n=-(n:Int):=fun _=>rfl
 rw[bWG];cases b with
 |false =>
  have bML:zv (false,a)=(val a:Int):=rfl;rw[cNC,bT,gP ⟨gG _,by omega⟩,gP ⟨gG _,by omega⟩,bML,<-cHF,<-Int.natCast_emod,bD,bD];rfl
 |true =>
  have bML:zv (true,a)=-(val a:Int):=rfl;have e1:=M.aGA (val a) (val d) pE;have e2:=aUC (val a) (val d) pE;have hm:=cDX (val a) pE;rw[cDP,bF,bML,e1,e2]
  by_cases hr:val a%val d=0
  ·rw[hr,cD,bJ (show((([]:List Int).length:Nat):Int)=0 from rfl),if_pos rfl,if_pos rfl,gP ⟨gG _,by omega⟩,gP ⟨mN,by simp⟩,bD];rfl
  ·have bNJ:(dg (val a%val d)).length≠0:=fun h=>hr (gJ.1 h)
   have l3:=Nq (val a/val d) 1;have l4:=Es (val d) (val a%val d);rw[show(dg (val d)).length=d.length from vU hy.1]at l4;rw[aQH,List.length_singleton]at l3;rw[bB,if_neg hr,if_neg hr,vJ,gP ⟨by omega,by omega⟩,gP ⟨gG _,gG _,by omega,by rw[aQH];simp⟩,bD,bD,gP ⟨gG _,by omega⟩,gP ⟨hy.1,aY _,by omega,by omega⟩,bD,bD,gP ⟨gG _,by omega⟩,bD,zt,zf];rw[show -(((val a/val d+1:Nat)):Int)=-((val a/val d:Nat):Int)-1 by omega];rfl
def aJ:dJ:=orc2 Fk Fk sp
theorem ok:OK 223 aJ:=(dY E aE (aA aRG.ok (aA Wt.ok (aA Mk.ok (aA Add.ok (aA Bz.ok (aA Sub.ok aC)))))) func223).lD rfl spec
end Ly
namespace zU
def E:=mE [(223,Ly.aJ)] 20 [] [(3,[2,3,4])] [3]
def aE:=bd f183
theorem aT:Nk E aE:=nk
def J3 a b c d e:=lK E f183 aE 3 [dR 0 180 [dG a,aYO b],dR 1 180 [dG c,aYO d],dR 2 180 [dG e,sc (slice none 0 0)]]
theorem start a b c d:aF E f183 aE [D.agg [sc (bool a),ints u32 b],D.agg [sc (bool c),ints u32 d]]=aB c none (zU.J3 a b c d false):=eJ aT
theorem iB a b c d e:J3 a b c d e=letI A:=zv (a,b)/zv (c,d);aN (yS (a,b)/\yS (c,d)/\c=false/\d.length=1/\b.length<=274877906944) (some [D.agg [sc (bool (isNeg A)),ints u32 (dg A.natAbs)]]):=cJ aT
def sp(x y:Bool×List Int):Prop×List D:=(yS x/\yS y/\y.1=false/\y.2.length=1/\x.2.length<=274877906944,[zD (zv x/zv y)])
theorem spec:fN E f183 aE Fk Fk sp:=by
 rintro x y ⟨hx,hy,hn,hl⟩;refine(start x.1 x.2 y.1 y.2).trans ?_;obtain⟨b,q⟩:=y
 try dsimp only at *
 subst hn;rw[bF,iB,gP ⟨hx,hy,rfl,hl⟩];rfl
def aJ:dJ:=orc2 Fk Fk sp
theorem ok:OK 183 aJ:=(dY E aE (aA Ly.ok aC) func183).lD rfl spec
end zU
namespace aRH
def E:=mE [(181,bCO.aJ),(182,bCP.aJ),(183,zU.aJ)] 12 [] [] []
def aE:=bd f131
theorem aT:Nk E aE:=nk
theorem start a b c d:aF E f131 aE [D.agg [sc (bool a),ints u32 b],D.agg [sc (bool c),ints u32 d]]=letI F:=zv (a,b)/zv (c,d);letI B:=(isNeg F,dg F.natAbs);letI A:=zv (c,d)*zv B;letI C:=(isNeg A,dg A.natAbs);aN (yS (a,b)/\yS (c,d)/\c=false/\d.length=1/\b.length<=274877906944) (aN (yS (c,d)/\yS B) (aN (yS (a,b)/\yS C) (some [D.agg [sc (bool (isNeg (zv (a,b)-zv C))),ints u32 (dg (zv (a,b)-zv C).natAbs)]]))):=eJ aT
def sp(x y:Bool×List Int):Prop×List D:=(yS x/\x.2.length<=268435456/\yS y/\y.1=false/\y.2.length=1,[zD (zv x%zv y)])
theorem spec:fN E f131 aE Fk Fk sp:=by
 rintro x y ⟨hx,lx,hy,hn,hl⟩;refine(start x.1 x.2 y.1 y.2).trans ((gP ⟨hx,hy,hn,hl,by omega⟩).trans ?_);have hz:=cZ hy.1;have bx:=aRB hx.1.jA lx;have cBF:=aRB (n:=1) hy.1.jA (by omega);have ax:=Tm x;have ay:=Tm y;obtain⟨a,p⟩:=x;obtain⟨b,q⟩:=y
 try dsimp only at *
 subst hn;have hp:zv (false,q)=(val q:Int):=rfl;have pE:0<zv (false,q):=by
  have:val q≠0:=fun h=>by have:=hz.2 h;omega
  omega
 have hq:bl (zv (a,p)/zv (false,q)).natAbs<=8589934592:=Nat.le_trans (gF (by rw[hp];exact tJ (by omega))) (by rw[ax];omega);have hm:bl (zv (false,q)*(zv (a,p)/zv (false,q))).natAbs<=8589934700:=by
  rw[Int.natAbs_mul];refine Nat.le_trans (Ja _ _) ?_;rw[ay];omega
 rw[gP ⟨hy,aBL hq (by omega)⟩,Rq,gP ⟨hx,aBL hm (by omega)⟩,Rq];have:zv (a,p)-zv (false,q)*(zv (a,p)/zv (false,q))=zv (a,p)%zv (false,q):=by
  have:=cKS (zv (a,p)) (zv (false,q));omega
 rw[this];rfl
def aJ:dJ:=orc2 Fk Fk sp
theorem ok:OK 131 aJ:=(dY E aE (aA bCO.ok (aA bCP.ok (aA zU.ok aC))) func131).lD rfl spec
end aRH
namespace bQN
def E:=mE [(179,Mk.aJ),(184,Add.aJ),(185,Bz.aJ)] 17 [] [] []
def aE:=bd f132
theorem aT:Nk E aE:=nk
theorem start a:aF E f132 aE [D.s (sc (int i64 a))]=letI F:=dg (u64.wrap a).toNat;letI B:=i64.wrap ((0:Int)-i64.wrap (a+1));letI A:=dg (u64.wrap B).toNat;letI C:=dg (val A+val (dg 1));aB (decide (a<0)) (aN (0<=u64.wrap B/\u64.wrap B<18446744073709551616) (aN ((0:Int)<=(1:Int)/\(1:Int)<(18446744073709551616:Int)) (aN (cA A/\cA (dg 1)/\A.length<=1099511627776/\(dg 1).length<=1099511627776) (aN (cA C/\C.length<=4398046511104) (some [D.agg [sc (bool (isNeg (zs true (val C)))),ints u32 (dg (zs true (val C)).natAbs)]]))))) (aN (0<=u64.wrap a/\u64.wrap a<18446744073709551616) (aN (cA F/\F.length<=4398046511104) (some [D.agg [sc (bool (isNeg (zs false (val F)))),ints u32 (dg (zs false (val F)).natAbs)]]))):=eJ aT
def sp(a:Int):Prop×List D:=(-9223372036854775808<=a/\a<9223372036854775808,[zD a])
theorem aGC{n:Nat}(h:n<18446744073709551616):(dg n).length<=2:=dS (by simpa using h)
theorem spec:iS E f132 aE (pN .i64) sp:=by
 rintro a ⟨h1,h2⟩;refine(start a).trans ?_;show _=some [zD a];simp only[bD]
 by_cases hn:a<0
 ·have e:u64.wrap (i64.wrap (0-i64.wrap (a+1)))=-(a+1):=by
   rw[wrap_i64 (n:=a+1),wrap_i64,wrap_u64];omega
  have l1:=aGC (n:=(-(a+1)).toNat) (by omega);have l2:=aGC (n:=(-(a+1)).toNat+1) (by omega);have l3:=aGC (n:=1) (by omega);rw[aM hn,e,gP ⟨by omega,by omega⟩,gP ⟨by omega,by omega⟩,gP ⟨gG _,gG _,by omega,by omega⟩,gP ⟨gG _,by omega⟩];have ez:zs true ((-(a+1)).toNat+1)=a:=by unfold zs;simp only[cond_true];omega
  rw[ez];rfl
 ·have l1:=aGC (n:=a.toNat) (by omega);rw[aL hn,wrap_u64,gP ⟨by omega,by omega⟩,gP ⟨gG _,by omega⟩];have ez:zs false a.toNat=a:=by unfold zs;simp only[cond_false];omega
  rw[ez];rfl
def aJ:dJ:=orc1 (pN .i64) sp
theorem ok:OK 132 aJ:=(dY E aE (aA Mk.ok (aA Add.ok (aA Bz.ok aC))) func132).oU rfl spec
end bQN
namespace aJU
def E:=mE [(186,Fits.aJ)] 33 [] [] []
def aE:=bd f133
theorem aT:Nk E aE:=nk
theorem start a b:aF E f133 aE [D.agg [sc (bool a),ints u32 b]]=letI F:=sc (bool true);letI C:=some [D.s (sc (int i64 0)),D.s (sc (bool false))];letI B:=(↑(if val b<18446744073709551616 then val b else(0:Nat)):Int);letI A:=aB (decide (9223372036854775808<=B)) C (aB a (some [D.s (sc (int i64 (i64.wrap ((0:Int)-i64.wrap B)))),D.s F]) (some [D.s (sc (int i64 (i64.wrap B))),D.s F]));aN (cA b/\b.length<=1099511627776) (aB (!decide (val b<18446744073709551616)) C (aB a (aB (B==(9223372036854775808:Int)) (some [D.s (sc (int i64 (-9223372036854775808:Int))),D.s F]) A) A)):=eJ aT
def aSK(z:Int):Bool:=decide (-9223372036854775808<=z)&&decide (z<9223372036854775808)
def sp(x:Bool×List Int):Prop×List D:=(yS x,[.s (.sc (.int .i64 (bif aSK (zv x)then zv x else 0))),.s (.sc (.bool (aSK (zv x))))])
theorem spec:iS E f133 aE Fk sp:=by
 intro x h;have h:yS x:=h;have l:=h.len;refine(start x.1 x.2).trans ((gP ⟨h.1.jA,by omega⟩).trans ?_);have yes:∀z:Int,-9223372036854775808<=z->z<9223372036854775808->aSK z=true:=fun z h h'=>by unfold aSK;rw[decide_eq_true h,decide_eq_true h'];rfl
 have no:∀z:Int,(z < -9223372036854775808\/9223372036854775808<=z)->aSK z=false:=fun z h=>by
  unfold aSK;rcases h with h |h
  ·rw[decide_eq_false (by omega),Bool.false_and]
  ·rw[decide_eq_false (show ¬z<_ by omega),Bool.and_false]
 unfold sp
 try dsimp only
 obtain⟨b,a⟩:=x
 try dsimp only at *
 by_cases h1:val a<18446744073709551616
 ·rw[decide_eq_true h1,if_pos h1,cDP,bF];cases b with
  |true =>
   have hz:zv (true,a)=-(val a:Int):=rfl;rw[bT,bT]
   by_cases h2:(val a:Int)=9223372036854775808
   ·rw[bJ h2,yes _ (by omega) (by omega),hz,h2];rfl
   ·rw[bB h2]
    by_cases h3:(9223372036854775808:Int)<=val a
    ·rw[aM h3,no _ (by omega)];rfl
    ·rw[aL h3,wrap_i64 (n:=(val a:Int)),wrap_i64 (n:=0-(val a:Int)),yes _ (by omega) (by omega),hz,Int.zero_sub];rfl
  |false =>
   have hz:zv (false,a)=(val a:Int):=rfl;rw[bF,bF]
   by_cases h3:(9223372036854775808:Int)<=val a
   ·rw[aM h3,no _ (by omega)];rfl
   ·rw[aL h3,wrap_i64 (n:=(val a:Int)),yes _ (by omega) (by omega),hz];rfl
 ·rw[decide_eq_false h1,cNC,bT];have:aSK (zv (b,a))=false:=by
   refine no _ ?_;have:=Tm (b,a)
   try dsimp only at this
   omega
  rw[this];rfl
def aJ:dJ:=orc1 Fk sp
theorem ok:OK 133 aJ:=(dY E aE (aA Fits.ok aC) func133).oU rfl spec
end aJU
namespace Po
def E:=mE [] 13 [] [] []
def aE:=bd f134
theorem aT:Nk E aE:=nk
theorem start a d e f g h b c:aF E f134 aE [D.agg [sc (int u64 a),sc (int i64 d),sc (int i64 e),sc (int i64 f),sc (int u64 g),sc (int u64 h)],D.s (sc (bool b)),D.s (sc (int u64 c))]=aB b (some [D.s (sc (int u64 (u64.wrap (a+c))))]) (some [D.s (sc (int u64 c))]):=eJ aT
def sp(k:Int×Int×Int×Int×Int×Int)(n:Bool)(s:Int):Prop×List D:=(yT k/\0<=s/\s<k.1,[.s (.sc (.int .u64 (bif n then k.1+s else s)))])
theorem spec:oG E f134 aE (pG (.pair (sN .u64) (.pair (sN .i64) (.pair (sN .i64) (.pair (sN .i64) (.pair (sN .u64) (sN .u64))))))) pB (pN .u64) sp:=by
 rintro k n s ⟨hk,h0,h1⟩;refine(start k.1 k.2.1 k.2.2.1 k.2.2.2.1 k.2.2.2.2.1 k.2.2.2.2.2 n s).trans ?_;cases n with
 |false=>rfl
 |true =>
  have:k.1<=9223372036854775808:=by rcases hk with rfl |rfl <;> decide
  rw[bT,wrap_u64];rfl
def aJ:dJ:=orc3 (pG (.pair (sN .u64) (.pair (sN .i64) (.pair (sN .i64) (.pair (sN .i64) (.pair (sN .u64) (sN .u64))))))) pB (pN .u64) sp
theorem ok:OK 134 aJ:=(dY E aE aC func134).xN rfl spec
end Po
namespace iC
def E:=mE [(30,rT.aJ),(128,aSC.aJ),(129,uA.aJ),(130,Hi.aJ),(131,aRH.aJ),(132,bQN.aJ),(133,aJU.aJ),(134,Po.aJ)] 143 [48,81,94,103,115,130,142] [(6,[1,2,8,10,11,36]),(11,[1,2,8,10]),(16,[1,8,10,13,17,72]),(18,[1,8,10,13,17,82]),(22,[1,8,13,17,104]),(24,[1,8,13,17,116]),(28,[8,17,131]),(29,[])] [6,11,16,18,22,24,28,29]
def aE:=bd f76
theorem aT:Nk E aE:=nk
def J6 a b c d e f g h i j k:=lK E f76 aE 6 [bP a,dM b,dR 2 67 [oT c,cF d,cF e,cF f,oT g,oT h],sE i,dM j,sE k]
def aBJ a b c d e f g h i:=lK E f76 aE 11 [bP a,dM b,dR 2 67 [oT c,cF d,cF e,cF f,oT g,oT h],sE i]
def aEB a b c d e f g h i j k:=lK E f76 aE 16 [bP a,dR 1 67 [oT b,cF c,cF d,cF e,oT f,oT g],sE h,bP i,sE j,sE k]
def bDC a b c d e f g h i j k:=lK E f76 aE 18 [bP a,dR 1 67 [oT b,cF c,cF d,cF e,oT f,oT g],sE h,bP i,sE j,sE k]
def bQY a b c d e f g h i j:=lK E f76 aE 22 [bP a,dR 1 67 [oT b,cF c,cF d,cF e,oT f,oT g],bP h,sE i,sE j]
def bQX a b c d e f g h i j:=lK E f76 aE 24 [bP a,dR 1 67 [oT b,cF c,cF d,cF e,oT f,oT g],bP h,sE i,sE j]
def aWL a b c d e f g h:=lK E f76 aE 28 [dR 0 67 [oT a,cF b,cF c,cF d,oT e,oT f],sE g,sE h]
def bUJ:=lK E f76 aE 29 []
theorem start a b c:aF E f76 aE [D.s (sc (int i64 a)),D.s (sc (int i64 b)),D.s (sc (int u64 c))]=letI A:=rT.fQ a;aN True (aN (yT (rT.fS a,rT.fP a,rT.fE a,rT.fG a,rT.fI a,rT.fQ a)/\0<=c) (aD (decide (rT.fS a<=c)) fun d=>aD (c%rT.fS a) fun e=>aB (decide (rT.fI a<=e)) (some [D.s (sc (int u64 A)),D.s (sc (bool true))]) (aB (e==0) (aB (b==2) (iC.J6 b c (rT.fS a) (rT.fP a) (rT.fE a) (rT.fG a) (rT.fI a) A d e true) (iC.J6 b c (rT.fS a) (rT.fP a) (rT.fE a) (rT.fG a) (rT.fI a) A d e (b==5))) (iC.J6 b c (rT.fS a) (rT.fP a) (rT.fE a) (rT.fG a) (rT.fI a) A d e false)))):=eJ aT
theorem vJ a b c d e f g h i j k:J6 a b c d e f g h i j k=aB k (aN (yT (c,d,e,f,g,h)) (aD (uA.one (c,d,e,f,g,h)) fun l=>some [D.s (sc (int u64 l)),D.s (sc (bool true))])) (aB (j==0) (some [D.s (sc (int u64 b)),D.s (sc (bool true))]) (aB (decide (a<=3)) (some [D.s (sc (int u64 0)),D.s (sc (bool false))]) (iC.aBJ a b c d e f g h i))):=cJ aT
theorem Fi a b c d e f g h i:aBJ a b c d e f g h i=letI C:=(c,d,e,f,g,h);letI A:=Hi.bJR C b;aN (yT C/\(0<=b/\b<18446744073709551616)/\b%c<kI C/\b%c≠0) (aD (isNeg A.fst) fun j=>aD (dg A.fst.natAbs) fun k=>letI B:=zv (j,k)%zv (isNeg 4,dg 4);aD A.snd fun l=>aN ((-9223372036854775808:Int)<=(4:Int)/\(4:Int)<(9223372036854775808:Int)) (aN (yS (j,k)/\k.length<=268435456/\yS (isNeg 4,dg 4)/\isNeg 4=false/\(dg 4).length=1) (aD (isNeg B) fun m=>aD (dg B.natAbs) fun n=>aN (yS (m,n)) (aD (bif aJU.aSK (zv (m,n))then zv (m,n)else(0:Int)) fun o=>aB (decide (0<=l)) (iC.aEB a c d e f g h i l (o==3) (a==4)) (iC.aEB a c d e f g h i l (o==3) false))))):=cJ aT
theorem Cq a b c d e f g h i j k:aEB a b c d e f g h i j k=aB k (aN (yT (b,c,d,e,f,g)/\(0:Int)<=(0:Int)/\0<b) (aD (bif h then b+0 else(0:Int)) fun l=>some [D.s (sc (int u64 l)),D.s (sc (bool true))])) (aB (decide (0<=i)) (iC.bDC a b c d e f g h i j (a==5)) (iC.bDC a b c d e f g h i j false)):=cJ aT
theorem Px a b c d e f g h i j k:bDC a b c d e f g h i j k=letI A:=(b,c,d,e,f,g);aB k (aN (yT A) (aD (uA.one A) fun l=>aN (yT A/\0<=l/\l<b) (aD (bif i==0 then b+l else l) fun m=>some [D.s (sc (int u64 m)),D.s (sc (bool true))]))) (aB (decide (0<=i)) (aN (yT A/\(0:Int)<=(0:Int)/\0<b) (aD (bif h !=(i==0)then b+0 else(0:Int)) fun n=>some [D.s (sc (int u64 n)),D.s (sc (bool true))])) (aB (i==(-1:Int)) (iC.bQY a b c d e f g i j (a==4)) (iC.bQY a b c d e f g i j false))):=cJ aT
theorem Wq a b c d e f g h i j:bQY a b c d e f g h i j=letI A:=(b,c,d,e,f,g);aB j (aN (yT A) (aD (uA.one A) fun k=>aN (yT A/\0<=k/\k<b) (aD (bif i then b+k else k) fun l=>some [D.s (sc (int u64 l)),D.s (sc (bool true))]))) (aB (h==(-1:Int)) (iC.bQX a b c d e f g h i (a==5)) (iC.bQX a b c d e f g h i false)):=cJ aT
theorem aEA a b c d e f g h i j:bQX a b c d e f g h i j=aB j (some [D.s (sc (int u64 0)),D.s (sc (bool true))]) (aB (h==(-1:Int)) (aN (yT (b,c,d,e,f,g)/\0<=f/\f<b) (aD (bif i then b+f else f) fun k=>some [D.s (sc (int u64 k)),D.s (sc (bool true))])) (aB (h==(-2:Int)) (iC.aWL b c d e f g i (a==6)) (iC.aWL b c d e f g i false))):=cJ aT
theorem Jn a b c d e f g h:aWL a b c d e f g h=letI A:=(a,b,c,d,e,f);aB h (aN (yT A) (aD (uA.one A) fun i=>aN (yT A/\0<=i/\i<a) (aD (bif g then a+i else i) fun j=>some [D.s (sc (int u64 j)),D.s (sc (bool true))]))) iC.bUJ:=cJ aT
theorem aDZ:bUJ=some [D.s (sc (int u64 0)),D.s (sc (bool false))]:=cJ aT
open W.Xc W.aDY
def Xv(k:K6)(b:Bool)(c:Int):Int:=bif b then k.1+c else c
def bIK(k:K6)(fn:Int)(neg:Bool)(e:Int)(m3:Bool):Int×Bool :=
 if 0<=e then(if fn=4 then Xv k neg 0 else if fn=5 then Xv k (e==0) (uA.one k)else Xv k (neg !=(e==0)) 0,true)
 else if e=-1 then(if fn=4 then Xv k m3 (uA.one k)else if fn=5 then 0 else Xv k m3 (kI k),true)
 else if e=-2 then(if fn=6 then(Xv k m3 (uA.one k),true)else(0,false))else(0,false)
theorem j16{k:K6}(hk:yT k){fn:Int}(h4:fn=4\/fn=5\/fn=6)(neg:Bool)(e:Int)(m3:Bool) :
  aB (decide (0<=e)) (aEB fn k.1 k.2.1 k.2.2.1 k.2.2.2.1 k.2.2.2.2.1 k.2.2.2.2.2 neg e m3 (fn==4)) (aEB fn k.1 k.2.1 k.2.2.1 k.2.2.2.1 k.2.2.2.2.1 k.2.2.2.2.2 neg e m3 false)=some [.s (.sc (.int .u64 (bIK k fn neg e m3).1)),.s (.sc (.bool (bIK k fn neg e m3).2))]:=by
 have p0:yT k/\(0:Int)<=0/\0<k.1:=⟨hk,by omega,by rcases hk with rfl |rfl <;> decide⟩;have p1:yT k/\0<=uA.one k/\uA.one k<k.1:=⟨hk,by rcases hk with rfl |rfl <;> decide,by rcases hk with rfl |rfl <;> decide⟩;have p2:yT k/\0<=k.2.2.2.2.1/\k.2.2.2.2.1<k.1:=⟨hk,by rcases hk with rfl |rfl <;> decide,by rcases hk with rfl |rfl <;> decide⟩;have n44:((4:Int)==4)=true:=rfl;have bRM:((5:Int)==4)=false:=rfl;have bRL:((5:Int)==5)=true:=rfl;have bRK:((6:Int)==4)=false:=rfl;have bRJ:((6:Int)==5)=false:=rfl;have bVU:((6:Int)==6)=true:=rfl;have n45:((4:Int)==5)=false:=rfl;have n46:((4:Int)==6)=false:=rfl;have bVV:((5:Int)==6)=false:=rfl;unfold bIK
 by_cases c0:0<=e
 ·rw[aM c0,if_pos c0];rcases h4 with rfl |rfl |rfl
  ·rw[Cq,n44,bT,gP p0];rfl
  ·rw[Cq,bRM,bF,aM c0,Px,bRL,bT,gP hk,aI,gP p1];rfl
  ·rw[Cq,bRK,bF,aM c0,Px,bRJ,bF,aM c0,gP p0];rfl
 ·rw[aL c0,if_neg c0,Cq,bF,aL c0,Px,bF,aL c0]
  by_cases c1:e=-1
  ·rw[bJ c1,if_pos c1];rcases h4 with rfl |rfl |rfl
   ·rw[Wq,n44,bT,gP hk,aI,gP p1];rfl
   ·rw[Wq,bRM,bF,bJ c1,aEA,bRL,bT];rfl
   ·rw[Wq,bRK,bF,bJ c1,aEA,bRJ,bF,bJ c1,gP p2];rfl
  ·rw[bB c1,if_neg c1,Wq,bF,bB c1,aEA,bF,bB c1]
   by_cases c2:e=-2
   ·rw[bJ c2,if_pos c2];rcases h4 with rfl |rfl |rfl
    ·rw[Jn,n46,bF,aDZ];rfl
    ·rw[Jn,bVV,bF,aDZ];rfl
    ·rw[Jn,bVU,bT,gP hk,aI,gP p1];rfl
   ·rw[bB c2,if_neg c2,Jn,bF,aDZ]
theorem bBR{f fn b:Int}(hf:f=32\/f=64)(h4:fn=4\/fn=5\/fn=6){neg:Bool}(hn:isNeg (cG.iW f b).1=neg) :
  bIK (kf (f==64)) fn neg (cG.iW f b).2 ((cG.iW f b).1%4==3)=if(dO.vE fn (cG.iW f b)).2.2=true then(mU.Kk f (dO.vE fn (cG.iW f b)).1 (dO.vE fn (cG.iW f b)).2.1,true)else(0,false):=by
 have sg:∀(c:Bool) (s v:Int),(s=0/\v=0\/s=1/\v=uA.one (kf (f==64))\/s=2/\v=kI (kf (f==64)))->Xv (kf (f==64)) c v=mU.Kk f s c:=by
  intro c s v h;unfold Xv mU.Kk iD.Xu;rcases hf with rfl |rfl <;> rcases h with ⟨rfl,rfl⟩ |⟨rfl,rfl⟩ |⟨rfl,rfl⟩ <;> cases c <;> decide
 unfold bIK dO.vE;generalize cG.iW f b=q at *;obtain⟨m,e⟩:=q;dsimp only at *;rw[hn]
 by_cases c0:0<=e
 ·rcases h4 with rfl |rfl |rfl
  ·simp only[if_pos c0,if_true];rw[sg _ 0 _ (.inl ⟨rfl,rfl⟩)]
  ·simp only[if_pos c0,if_true,show ¬(5:Int)=4 by decide,if_false];rw[sg _ 1 _ (.inr (.inl ⟨rfl,rfl⟩))]
  ·simp only[if_pos c0,if_true,show ¬(6:Int)=4 by decide,show ¬(6:Int)=5 by decide,if_false];rw[sg _ 0 _ (.inl ⟨rfl,rfl⟩)]
 ·by_cases c1:e=-1
  ·rcases h4 with rfl |rfl |rfl
   ·simp only[if_neg c0,if_pos c1,if_true];rw[sg _ 1 _ (.inr (.inl ⟨rfl,rfl⟩))]
   ·simp only[if_neg c0,if_pos c1,if_true,show ¬(5:Int)=4 by decide,if_false];rw[<-sg false 0 0 (.inl ⟨rfl,rfl⟩)];rfl
   ·simp only[if_neg c0,if_pos c1,if_true,show ¬(6:Int)=4 by decide,show ¬(6:Int)=5 by decide,if_false];rw[sg _ 2 _ (.inr (.inr ⟨rfl,rfl⟩))]
  ·by_cases c2:e=-2
   ·rcases h4 with rfl |rfl |rfl
    ·simp only[if_neg c0,if_neg c1,if_pos c2,if_true,show ¬(4:Int)=6 by decide,if_false,cET]
    ·simp only[if_neg c0,if_neg c1,if_pos c2,if_true,show ¬(5:Int)=4 by decide,show ¬(5:Int)=6 by decide,if_false,cET]
    ·simp only[if_neg c0,if_neg c1,if_pos c2,if_true,show ¬(6:Int)=4 by decide,show ¬(6:Int)=5 by decide,if_false];rw[sg _ 1 _ (.inr (.inl ⟨rfl,rfl⟩))]
   ·rcases h4 with rfl |rfl |rfl
    ·simp only[if_neg c0,if_neg c1,if_neg c2,if_true,if_false,cET]
    ·simp only[if_neg c0,if_neg c1,if_neg c2,if_true,show ¬(5:Int)=4 by decide,if_false,cET]
    ·simp only[if_neg c0,if_neg c1,if_neg c2,if_true,show ¬(6:Int)=4 by decide,show ¬(6:Int)=5 by decide,if_false,cET]
def Ki(f fn b:Int):Int×Bool:=lS.Mp f fn b (jT.xS f b)
def sp(f fn b:Int):Prop×List D:=((0<=b/\b<18446744073709551616)/\gB.qC f fn b=0,[.s (.sc (.int .u64 (Ki f fn b).1)),.s (.sc (.bool (Ki f fn b).2))])
theorem spec:oG E f76 aE (pN .i64) (pN .i64) (pN .u64) sp:=by
 rintro f fn b ⟨hb,he⟩;obtain⟨hf,hp,f1,f6⟩:=Ziv.Vk he;obtain⟨Zf,hc⟩:=Ziv.Vs hf hb hp;obtain⟨e1,e2⟩:=Ju hf;obtain⟨k1,k2,hk,k4⟩:=aXM hf;have s0:=cKT b (show sg f≠0 by unfold sg;split <;> omega);have hi:=(Xc.Uu hf).2.1;have hi0:=(Xc.Uu hf).1;rw[e2]at hi;have eI:rT.fI f=mJ.qB (Fm.Gc f):=by rcases hf with rfl |rfl <;> rfl
 have eS:rT.fS f=sg f:=by rcases hf with rfl |rfl <;> rfl
 have eQ:rT.fQ f=(aH.fF f).2.2.2:=by rcases hf with rfl |rfl <;> rfl
 obtain⟨g1,g2,g3,g4,g5,g6⟩:rT.fS f=(kf (f==64)).1/\rT.fP f=(kf (f==64)).2.1/\rT.fE f=(kf (f==64)).2.2.1/\rT.fG f=(kf (f==64)).2.2.2.1/\rT.fI f=(kf (f==64)).2.2.2.2.1/\rT.fQ f=(kf (f==64)).2.2.2.2.2:=by rcases hf with rfl |rfl <;> exact⟨rfl,rfl,rfl,rfl,rfl,rfl⟩
 have gS:(kf (f==64)).1=sg f:=by rcases hf with rfl |rfl <;> rfl
 have gI:(kf (f==64)).2.2.2.2.1=mJ.qB (Fm.Gc f):=by rcases hf with rfl |rfl <;> rfl
 have gQ:(kf (f==64)).2.2.2.2.2=(aH.fF f).2.2.2:=by rcases hf with rfl |rfl <;> rfl
 refine(start f fn b).trans ?_;rw[g1,g2,g3,g4,g5,g6,gP trivial];show aN (yT (kf (f==64))/\0<=b) _=_;rw[gP ⟨hk,hb.1⟩,aI,aI];unfold sp Ki lS.Mp;dsimp only;generalize jT.xS f b=cl at hc ⊢
 by_cases ci:mJ.qB (Fm.Gc f)<=b%sg f
 ·rw[aM (by rw[gI,gS];exact ci),gQ];rw[aP,aP,aP]at hc
  by_cases c3:b%sg f=mJ.qB (Fm.Gc f)
  ·rw[if_pos c3]at hc;rw[aP,if_pos hc]
  ·rw[if_neg c3]at hc;rw[if_pos hc]
 ·rw[aL (by rw[gI,gS];exact ci)];have j11:b%sg f≠0->4<=fn->aBJ fn b (kf (f==64)).1 (kf (f==64)).2.1 (kf (f==64)).2.2.1 (kf (f==64)).2.2.2.1 (kf (f==64)).2.2.2.2.1 (kf (f==64)).2.2.2.2.2 (decide ((kf (f==64)).1<=b))=some [.s (.sc (.int .u64 (cG.sU f fn b).1)),.s (.sc (.bool (cG.sU f fn b).2.1))]:=by
   intro c0 c4;have h4:fn=4\/fn=5\/fn=6:=by omega
   have eK:(kf (f==64)).1=sg f:=by rw[k4,e1]
   have cAU:kI (kf (f==64))=mJ.qB (Fm.Gc f):=by rcases hf with rfl |rfl <;> rfl
   have ex:=aDA hf ⟨c4,f6⟩ hp (by rw[e1];omega) (by rw[e1,e2];omega);have hn:=aZR hf hb.1;rw[Fi];show aN (yT (kf (f==64))/\_) _=_;rw[gP ⟨hk,hb,by rw[eK];show b%sg f<kI (kf (f==64));rw[cAU];omega,by rw[eK];exact c0⟩];show aD (isNeg (aQ (zs (decide ((kf (f==64)).1<=b)) (nT (kf (f==64)) (b%(kf (f==64)).1).toNat)) (kE (kf (f==64)))).1) (fun y4=>aD (dg (aQ (zs (decide ((kf (f==64)).1<=b)) (nT (kf (f==64)) (b%(kf (f==64)).1).toNat)) (kE (kf (f==64)))).1.natAbs) fun y5=>aD (aQ (zs (decide ((kf (f==64)).1<=b)) (nT (kf (f==64)) (b%(kf (f==64)).1).toNat)) (kE (kf (f==64)))).2 _)=_;rw[hn];have bAM:isNeg (cG.iW f b).1=decide ((kf (f==64)).1<=b):=by
    rw[gS];have hn:=aUA ⟨hf,⟨hb.1,Zf⟩,by omega,by omega⟩
    by_cases c:sg f<=b
    ·rw[decide_eq_true c];exact kJ.2 (hn.2 c)
    ·rw[decide_eq_false c];exact gH.2 (by have:=mt hn.1 c;omega)
   have Qk:bl (cG.iW f b).1.natAbs<=64:=by
    obtain⟨_,hm,_⟩:=cG.Nh hf hb.1 (decide_eq_true (by rw[e1,e2];omega));have:=Gf (bI.lL f b) (bI.nA f b);exact dP.2 (cIE this (Nat.lt_trans hm (by decide)))
   have hx:=bBR hf h4 bAM;rw[ex];obtain⟨o1,o2,o3⟩:=aTW (z:=4) (by decide) (by decide);have e4:zv (isNeg 4,dg 4)=4:=Rq 4;generalize cG.iW f b=q at *;have hr:0<=q.1%4/\q.1%4<4:=by omega
   have Yz:aJU.aSK (q.1%4)=true:=by unfold aJU.aSK;rw[decide_eq_true (by omega),decide_eq_true (by omega)];rfl
   rw[aYM,aI,gP ⟨by omega,by omega⟩,gP ⟨aBL (k:=64) Qk (by omega),by have:=Bk Qk;omega,o1,o2,o3⟩,Rq,e4,aYM,gP (Rx (by omega)).1,Rq,Yz,cond_true,aI];refine(j16 hk h4 _ _ _).trans ?_;rw[hx];split <;> rfl
  by_cases c0:b%sg f=0
  ·rw[if_pos c0]at hc;subst hc;rw[bJ (by rw[gS];exact c0),if_neg (by decide),if_neg (by decide)];have o2:iD.Qn (aH.fF f) false (iD.vD (aH.fF f) 1 0)=uA.one (kf (f==64)):=by rcases hf with rfl |rfl <;> decide +kernel
   have o5:mU.Kk f 1 false=uA.one (kf (f==64)):=by rcases hf with rfl |rfl <;> decide
   by_cases c2:fn=2
   ·subst c2;rw[bJ rfl,vJ,bT];show aN (yT (kf (f==64))) (aD (uA.one (kf (f==64))) _)=_;rw[gP hk,aI,if_neg (by decide),if_pos rfl,if_pos rfl,o2]
   ·rw[bB c2]
    by_cases c5:fn=5
    ·subst c5;rw[show((5:Int)==5)=true from rfl,vJ,bT];show aN (yT (kf (f==64))) (aD (uA.one (kf (f==64))) _)=_;rw[gP hk,aI,if_pos (by decide),Vj hf ⟨by decide,by decide⟩ hp (by rw[e1];exact c0),if_pos rfl,o5]
    ·rw[beq_eq_false_iff_ne.2 c5,vJ,bF,bJ (by rw[gS];exact c0)]
     by_cases c4:4<=fn
     ·rw[if_pos c4,Vj hf ⟨c4,f6⟩ hp (by rw[e1];exact c0),if_neg c5]
     ·rw[if_neg c4,if_pos rfl,if_neg c2]
  ·rw[if_neg c0]at hc;have aIX:cl=1\/cl=2:=by
    split at hc
    ·exact .inl hc
    ·first |exact .inr hc | (rw[aR]at hc;exact .inr hc)
   rw[bB (by rw[gS];exact c0),vJ,bF,bB (by rw[gS];exact c0),aP,aP]
   by_cases c4:4<=fn
   ·rw[aL,if_pos c4];exact j11 c0 c4
   ·rw[aM,if_neg c4,aP]
def aJ:dJ:=orc3 (pN .i64) (pN .i64) (pN .u64) sp
theorem ok:OK 76 aJ:=(dY E aE (aA rT.ok (aA aSC.ok (aA uA.ok (aA Hi.ok (aA aRH.ok (aA bQN.ok (aA aJU.ok (aA Po.ok aC)))))))) func76).xN rfl spec
end iC
namespace yO
def E:=mE [(33,Hm.aJ),(76,iC.aJ)] 23 [] [] []
def aE:=bd f29
theorem aT:Nk E aE:=nk
theorem start a b c:aF E f29 aE [D.s (sc (int i64 a)),D.s (sc (int i64 b)),D.s (sc (int u64 c))]=aN (0<=c/\c<18446744073709551616) (aB (Hm.bEL a b c !=0) (some [D.s (sc (bool false))]) (aN ((0<=c/\c<18446744073709551616)/\gB.qC a b c=0) (some [D.s (sc (bool !(iC.Ki a b c).snd))]))):=eJ aT
def jL(f fn b:Int):Bool:=decide (gB.qC f fn b=0)&&!(iC.Ki f fn b).2
theorem bCF(f fn b:Int):Hm.bEL f fn b=gB.qC f fn b:=rfl
def sp(f fn b:Int):Prop×List D:=(0<=b/\b<18446744073709551616,[.s (.sc (.bool (jL f fn b)))])
theorem spec:oG E f29 aE (pN .i64) (pN .i64) (pN .u64) sp:=by
 intro f fn b h;have hb:0<=b/\b<18446744073709551616:=h;refine(start f fn b).trans ((gP hb).trans ?_);unfold sp jL;rw[bCF]
 by_cases he:gB.qC f fn b=0
 ·rw[gR he,gP ⟨hb,he⟩,decide_eq_true he];rfl
 ·rw[oM he,decide_eq_false he];rfl
def aJ:dJ:=orc3 (pN .i64) (pN .i64) (pN .u64) sp
theorem ok:OK 29 aJ:=(dY E aE (aA Hm.ok (aA iC.ok aC)) func29).xN rfl spec
end yO
namespace LawZOdd
def E:=mE [(24,Mb.aJ),(29,yO.aJ),(30,rT.aJ),(26,mR.aJ)] 77 [] [(11,[8,9,11,12,14,15]),(13,[8,9,11,14])] [11,13]
def aE:=bd f6
theorem aT:Nk E aE:=nk
def aBJ a b c d e f g h i j k:=lK E f6 aE 11 [bP a,dR 1 67 [oT b,cF c,cF d,cF e,oT f,oT g],dM h,sE i,dM j,sE k]
def Pz a b c d e f g h i:=lK E f6 aE 13 [bP a,dR 1 67 [oT b,cF c,cF d,cF e,oT f,oT g],dM h,dM i]
theorem start a b c:aF E f6 aE [D.s (sc (int i64 a)),D.s (sc (int i64 b)),D.s (sc (int u64 c))]=letI F:=mR.Je a b c;letI C:=rT.fS a;letI B:=some [D.s (sc (bool false))];letI A:=fC BinOp.xor u64 c C;letI G:=mR.Je a b A;aN True (aN (0<=c/\c<18446744073709551616) (aB (!yO.jL a b c) (some [D.s (sc (bool true))]) (aN True (aN (0<=c/\c<18446744073709551616) (aD F.fst fun d=>aD F.snd.fst fun e=>aN (0<=fC BinOp.xor u64 c C/\fC BinOp.xor u64 c C<18446744073709551616) (aD G.fst fun f=>aD G.snd.fst fun g=>aD (gB.qC a b A) fun h=>aB (gB.qC a b c !=0) B (aB (h !=0) B (LawZOdd.aBJ b C (rT.fP a) (rT.fE a) (rT.fG a) (rT.fI a) (rT.fQ a) d e f g)))))))):=eJ aT
theorem Fi a b c d e f g h i j k:aBJ a b c d e f g h i j k=letI A:=some [D.s (sc (bool true))];aB (!i) A (aB (!k) A (LawZOdd.Pz a b c d e f g h j)):=cJ aT
theorem wW a b c d e f g h i:Pz a b c d e f g h i=letI A:=some [D.s (sc (bool (h==i)))];aB (a==2) A (aB (a==5) A (some [D.s (sc (bool (h==fC BinOp.xor u64 i b)))])):=cJ aT
open W.Ziv W.aDY
def sp(f fn b:Int):Prop×List D:=(0<=b/\b<18446744073709551616,[.s (.sc (.bool true))])
theorem spec:oG E f6 aE (pN .i64) (pN .i64) (pN .u64) sp:=by
 intro f fn b h;have hb:0<=b/\b<18446744073709551616:=h;refine(start f fn b).trans ?_;rw[gP trivial,gP hb];unfold sp;cases hF:yO.jL f fn b with
 |false=>rfl
 |true =>
  unfold yO.jL at hF;rw[Bool.and_eq_true,decide_eq_true_eq,Bool.not_eq_true']at hF;obtain⟨he,hs⟩:=hF;have hn:=Yj hb he hs;have hf:=hn.fin.1;have Zf:=hn.fin.2.1;have bAF:0<sg f/\2*sg f<=18446744073709551616:=by unfold sg;split <;> omega
  have eS:rT.fS f=bR.cC (aH.fF f):=by rcases hf with rfl |rfl <;> rfl
  obtain⟨e1,e2⟩:=Ju hf;have ex:∀q:Int,0<=q/\q<2*sg f->fC .xor .u64 q (rT.fS f)=flip f q:=fun q hq=>by
   rw[eS,Xc.aPK hf hq.1 (by rw[e1];exact hq.2),e1];rfl
  obtain⟨oF,oN⟩:=Vh hn.fin;have ob:0<=flip f b/\flip f b<18446744073709551616:=by have:=oF.2.1;omega
  have on:=aZQ hn;have oe:=bBU on;have os:=aYW on;rw[cDP,bF,gP trivial,gP hb,aI,aI,ex b Zf,gP ob,aI,aI,aI,gR he,gR oe,Fi];cases v1:(mR.Je f fn b).2.1 with
  |false=>rfl
  |true =>
   cases v2:(mR.Je f fn (flip f b)).2.1 with
   |false=>rfl
   |true =>
    have a1:=Xg hb he hs v1;have a2:=Xg ob oe os v2;have o:=aTZ hn a1 a2;have q2:=a2.bd hf;rw[cDP,bF,bF,wW,ex _ q2]
    by_cases c2:fn=2
    ·rw[if_pos (.inl c2)]at o;rw[bJ c2,beq_iff_eq.2 o]
    ·rw[bB c2]
     by_cases c5:fn=5
     ·rw[if_pos (.inr c5)]at o;rw[bJ c5,beq_iff_eq.2 o]
     ·rw[aP]at o;rw[bB c5,beq_iff_eq.2 o]
def aJ:dJ:=orc3 (pN .i64) (pN .i64) (pN .u64) sp
theorem fnok:uU prog E 6 f6 aE:=aJB tN mixed (nI _ rfl (aA Mb.ok (aA yO.ok (aA rT.ok (aA mR.ok aC)))) (pJ)) func6 rfl rfl rfl
theorem ok:mM prog base.glob 6 aJ:=fnok.xN rfl spec
end LawZOdd
end W
namespace AI
open Go Go.RowKit Go.ChangeShapes Go.WideShapes Go.ChangeAt
abbrev noX:Nat->Prop:=fun _=>False
theorem aWD{w:World}{a:Addr}{v:Value}(h:w.cell? a=some v):a=⟨a.block,a.off,none⟩/\a.block<w.heap.size:=by
 unfold World.cell? at h;split at h
 ·rename_i c t fr hb;split at h
  ·cases h
  ·rename_i hs;obtain⟨b,o,s⟩:=a;cases s with
   |some x=>simp at hs
   |none=>exact⟨rfl,(Array.getElem?_eq_some_iff.1 hb).1⟩
 ·cases h
section
variable {H:Type} {enc:TypeId×Value->H} {P:Program} {w:World} {held:Bool} {sp:Nat->Bool}
theorem glob_ints{name:String}{g:Nat}{t e:TypeId}{k:IntKind}{n fuel:Nat}{ns:List Int}{cs:Array Value}{p:List MemPlace}(hg:P.globalNamed name=some g)(hv:w.var? P name=some cs)(ht:P.underlying t=some (.array n e))(he:P.underlying e=some (.int k))(hc:P.cellsOf e=1)(hn:ns.length=n)(Dr:0<n)
  (hd:DataW.trod enc P w 0 sp held fuel t cs.toList=some (.agg (ns.map fun m=>.lit (.int k m)),p)):g<w.heap.size/\¬noX g/\wG noX w g 0 (yD k ns):=by
 obtain⟨xs,m1,_,hx,_,Ev,bYW⟩:=DataW.trod_array ht hd;simp only[Prod.mk.injEq,DataW.agg.injEq]at hx;have cell:∀i v,ns[i]?=some v->w.cell? ⟨g,i,none⟩=some (.int k v):=by
  intro i v hi;have kD:i<n:=by have:=(List.getElem?_eq_some_iff.1 hi).1;omega
  have h1:=bYW i kD;have bRV:xs[i]?=some xs[i]:=cCG (by omega);rw[bRV,hc,Nat.mul_one]at h1;obtain⟨m,e1,e2,_⟩:=DataW.trod_int he h1;have h2:=congrArg (fun l=>l[i]?) hx.1;simp only[cBT,hi,bRV,e2,Option.map_some]at h2;have bXR:v=m:=by simpa using h2
  subst bXR;have h3:((cs.toList.drop i).take 1)[0]?=some (.int k v):=by rw[e1];rfl
  rw[List.getElem?_take,aR,List.getElem?_drop]at h3;have h4:=World.var?_cell hg hv i;rw[h4];simpa using h3
 have h0:ns[0]?=some ns[0]:=cCG (by omega);have hb:=(aWD (cell 0 _ h0)).2;refine⟨hb,id,fun i s hs=>⟨hb,id,?_⟩⟩;unfold yD at hs;rw[cBT]at hs;obtain⟨v,bFZ,rfl⟩:=Option.map_eq_some_iff.1 hs;refine⟨_,by rw[Nat.zero_add];exact cell i v bFZ,rfl,rfl⟩
end
theorem wf64{n:Int}(h:(Lit.int .u64 n).wf=true):0<=n/\n<18446744073709551616:=by
 have h2:u64.min<=n/\n<=u64.max:=by simpa [Lit.wf] using h
 have e1:u64.min=0:=rfl;have e2:u64.max=18446744073709551615:=rfl;omega
theorem calls_true{P:Program}{G:Nat->Option (IntKind×List Int)}{f:FuncId}{ds:List D}(hc:Contract P G f ds [.s (.sc (.bool true))]){w:World}{vs:List Value}(hG:GlobOk G noX w)(hl:ds.length=vs.length)
  (hr:∀(i:Nat) (d:D) (v:Value),ds[i]?=some d->vs[i]?=some v->mW noX w d v):Calls P f vs.toArray w fun e w'=>e=.returned (.bool true)/\Below w.heap.size w w':=by
 refine(hc noX w vs (fun _ h=>h.elim) hG hl hr).mono ?_;rintro e w' ⟨vK,rfl,hb,g,hl,_,hr⟩
 match vK,hl with
 | [v],_ =>
  have:=hr 0 _ v rfl rfl;obtain⟨rfl,_⟩:=this;exact⟨rfl,hb⟩
end AI
end Go.Proofs.YtplagoepbghhpaaGreatDoor
end
