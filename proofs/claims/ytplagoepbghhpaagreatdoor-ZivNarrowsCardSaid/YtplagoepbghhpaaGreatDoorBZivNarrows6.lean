/- Contracts. -/
import Derived.WalkKit
import Derived.ProofKit
import Derived.OpenShut
import Derived.Carry
import Derived.LaidMore
import Derived.MakeChecks
import Derived.Test.YtplagoepbghhpaaGreatDoorBZivNarrows5
set_option linter.unusedVariables false
set_option linter.unusedSimpArgs false
set_option exponentiation.threshold 10000000
noncomputable section
open Go.IntKind(i8 i16 i32 i64 u8 u16 u32 u64)
open Go.Proofs.Tryz
open Nat renaming mul_add->cGF,mul_assoc->cGH,pow_add->cGE,mod_lt->cDM,pow_pos->cEE,div_add_mod->cGK,pow_succ->cGD,le_refl->cBE,add_zero->cCC,div_eq_of_lt->cHB,lt_of_lt_of_le->cCB,lt_of_le_of_lt->cHT,mul_le_mul_left->cDS
open Int renaming toNat_natCast->cFB,natCast_mul->cHC,mul_neg->cKE,add_zero->cLL,eq_ofNat_of_zero_le->cGG,tdiv_eq_ediv_of_nonneg->cIS,natCast_ediv->cGU,emod_nonneg->cKI,emod_emod_of_dvd->cPY,mul_ediv_add_emod->cKH
open Bool renaming false_eq_true->cEI,not_true->cDE,not_false->cMR
open List renaming replicate->cDH,length_set->cQW,getD_eq_getElem?_getD->cGI,getElem?_eq_getElem->cBV,getElem?_map->cBI
namespace Go.Proofs.YtplagoepbghhpaaGreatDoor
open Go.Value(int bool slice)
open AI.S(sc ints)
namespace W
open Go AI M
namespace bKW
def E:=mE [] 24 [] [(3,[0,1])] [3]
def aE:=bd f217
theorem aT:Nk E aE:=nk
def J3 a b:=lP E f217 aE 3 [qK a,bN b]
theorem start a b:aF E f217 aE [D.s (ints u32 a),D.s (sc (int i64 b))]=letI A:=some [D.s (sc (int i64 0))];aB (decide (b<0)) A (aB (decide ((a.length:Int)<=i64.wrap (b.tdiv 32))) A (bKW.J3 a b)):=eJ aT
theorem iB a b:J3 a b=letI A:=b.tdiv 32;if 0<=i64.wrap A/\i64.wrap A<(a.length:Int)then if b.tmod 32<(0:Int)then none else some [D.s (sc (int i64 (i64.wrap (fO BinOp.and u32 (a.getD (i64.wrap A).toNat 0/(↑((2:Nat)^min (b.tmod 32).toNat 32):Int)) 1))))]else none:=cJ aT
theorem aKC{x:Int}(h:0<=x)(h':x<4294967296):fO .and .u32 x 1=x%2:=by
 obtain⟨n,rfl⟩:=cGG h;rw[wS];unfold bitsI0;simp only;have e:(BitVec.ofInt u32.bits (n:Int) &&& BitVec.ofInt u32.bits 1).toNat=n%2:=by
  show(BitVec.ofInt 32 (n:Int) &&& BitVec.ofInt 32 1).toNat=_;rw[BitVec.toNat_and];have e1:(BitVec.ofInt 32 (n:Int)).toNat=n:=by simp;omega
  have e2:(BitVec.ofInt 32 1).toNat=1:=by decide
  rw[e1,e2,Nat.and_one_is_mod]
 rw[e,wrap_u32];omega
def sp(a:List Int)(i:Int):Prop×List D:=(bZ a/\a.length<=1099511627776/\-9223372036854775808<=i/\i<9223372036854775808,[.s (.sc (.int .i64 (if i<0 then 0 else((val a/2^i.toNat%2:Nat):Int))))])
theorem spec:fL E f217 aE (pI .u32) (pN .i64) sp:=by
 rintro a i ⟨ha,hl,h1,h2⟩;refine(start a i).trans ?_;show _=some [D.s (.sc (.int .i64 (if i<0 then 0 else((val a/2^i.toNat%2:Nat):Int))))]
 by_cases hn:i<0
 ·rw[aN hn,if_pos hn]
 ·have t1:i.tdiv 32=i/32:=cIS (by omega);have t2:i.tmod 32=i%32:=Int.tmod_eq_emod_of_nonneg (by omega);have e1:(i/32).toNat=i.toNat/32:=by omega
  have e2:(i%32).toNat=i.toNat%32:=by omega
  rw[aL hn,if_neg hn,t1,wrap_i64 (n:=i/32),Db i.toNat,<-Nat.div_div_eq_div_mul]
  by_cases hz:(a.length:Int)<=i/32
  ·have hv:val a/4294967296^(i.toNat/32)=0:=by
    apply cHB;exact cCB (dR ha) (fK)
   rw[aN hz,hv,Nat.zero_div];rfl
  ·have g:=ha.get (i.toNat/32);rw[aL hz,iB,t1,t2,wrap_i64 (n:=i/32),aQ,aO,e1,e2,<-lZ ha,iL];have em:min (i.toNat%32) 32=i.toNat%32:=by omega
   have kM:i.toNat%32<32:=cDM _ (by omega);rw[em];generalize i.toNat%32=k at *;generalize a.getD (i.toNat/32) 0=x at *;generalize val (a.drop (i.toNat/32+1))=r at *;have hp:0<2^k:=cY;have e3:(x.toNat+4294967296*r)/2^k%2=x.toNat/2^k%2:=by
    have:4294967296*r=2^k*(2*(2^(31-k)*r)):=by
     rw[show(4294967296:Nat)=2^32 from rfl,show 32=k+(1+(31-k))from by omega,cGE,cGE,cGH,cGH]
    rw[this,Nat.add_mul_div_left _ _ hp];omega
   rw[e3];have ex:x/((2^k:Nat):Int)=((x.toNat/2^k:Nat):Int):=by
    obtain⟨n,rfl⟩:=cGG g.1;rw[<-cGU];rfl
   have hle:x.toNat/2^k<=x.toNat:=Nat.div_le_self _ _;rw[ex];clear ex e3;generalize x.toNat/2^k=q at *;rw[aKC (by omega) (by omega),wrap_i64];rfl
def aI:dJ:=orc2 (pI .u32) (pN .i64) sp
theorem ok:OK 217 aI:=(eB E aE aC func217).lF rfl spec
end bKW
namespace Ha
def E:=mE [(217,bKW.aI)] 29 [] [(6,[0,3]),(4,[0,3])] [6]
def aE:=bd f178
theorem aT:Nk E aE:=nk
def L4 a b:=pZ E f178 aE 4 [qK a,bN b]
def J6 a b:=lP E f178 aE 6 [qK a,bN b]
def L6 a b:=pZ E f178 aE 6 [qK a,bN b]
theorem start a:aF E f178 aE [D.s (ints u32 a)]=aB ((a.length:Int)==(0:Int)) (some [D.s (sc (int i64 0))]) (Ha.L4 a 0):=eJ aT
theorem nS a b:L4 a b=letI A:=b.tdiv 32;aB (decide (i64.wrap A<(a.length:Int))) (if 0<=i64.wrap A/\i64.wrap A<(a.length:Int)then aB (a.getD (i64.wrap A).toNat 0==(0:Int)) (Ha.L4 a (i64.wrap (b+32))) (Ha.J6 a b)else none) (Ha.J6 a b):=lJ aT
theorem vE a b:J6 a b=Ha.L6 a b:=cJ aT
theorem vD a b:L6 a b=aM (bZ a/\a.length<=1099511627776/\(-9223372036854775808:Int)<=b/\b<9223372036854775808) (aB ((if b<0 then(0:Int)else(↑(val a/(2:Nat)^b.toNat%2):Int))==0) (Ha.L6 a (i64.wrap (b+1))) (some [D.s (sc (int i64 b))])):=lJ aT
theorem bEO{v k:Nat}(hv:v≠0)(h:v%2^k=0):k<=tz v:=by
 have hd:=cGK v (2^k);rw[h,cCC]at hd;have hq:v/2^k≠0:=fun hq=>by rw[hq,Nat.mul_zero]at hd;omega
 have:=Me hq k;rw[hd]at this;omega
theorem lp{a:List Int}(ha:bZ a)(hl:a.length<=1099511627776)(hv:val a≠0)(ht:tz (val a)<70368744177664):∀(d n:Nat),n+d=tz (val a)->L6 a (n:Int)=some [D.s (.sc (.int .i64 (tz (val a):Int)))]:=by
 have hs:=pT _ hv;intro d
 induction d with
 |zero =>
  intro n hd;have:n=tz (val a):=by omega
  subst this;rw[vD,gP ⟨ha,hl,by omega,by omega⟩,aO,cFB,bA]
 |succ d ih =>
  intro n hd;have h0:val a/2^n%2=0:=by
   have aUY:=cGK (val a) (2^tz (val a));rw[hs.1,cCC]at aUY;have:val a=2^n*(2*(2^d*(val a/2^tz (val a)))):=by
    have e:2^tz (val a)=2^n*(2*2^d):=by rw[<-hd,cGE,cGD,Nat.mul_comm (2^d)]
    generalize val a/2^tz (val a)=q at *;rw[<-cGH 2,<-cGH (2^n),<-e];exact aUY.symm
   rw[this,Nat.mul_div_cancel_left _ (cEE (by decide))];omega
  rw[vD,gP ⟨ha,hl,by omega,by omega⟩,aO,cFB,h0,bI (show((0:Nat):Int)=0 from rfl),wrap_i64];exact ih (n+1) (by omega)
theorem skip{a:List Int}(ha:bZ a)(hl:a.length<=1099511627776)(hv:val a≠0)(ht:tz (val a)<70368744177664):∀(d i:Nat),i+d=a.length->val (a.take i)=0->L4 a ((32*i:Nat):Int)=some [D.s (.sc (.int .i64 (tz (val a):Int)))]:=by
 have key:∀i,val (a.take i)=0->32*i<=tz (val a)/\i<a.length:=by
  intro i h0;have kM:i<a.length:=by
   rcases Nat.lt_or_ge i a.length with h |h
   ·exact h
   ·rw[List.take_of_length_le h]at h0;exact(hv h0).elim
  refine⟨bEO hv ?_,kM⟩;have h1:=iJ a (n:=i) (by omega);rw[h0,Nat.zero_add]at h1;rw[<-Ju,h1,Nat.mul_mod_right]
 intro d
 induction d with
 |zero=>intro i hd h0;have:=key i h0;omega
 |succ d ih =>
  intro i hd h0;have hk:=key i h0;have t1:(((32*i:Nat):Int)).tdiv 32=(i:Int):=by rw[cIS (by omega)];omega
  have g:=ha.get i;rw[nS,t1,wrap_i64 (n:=(i:Int)),aN,aQ,cFB]
  by_cases hc:a.getD i 0=0
  ·rw[bI hc,wrap_i64];have:=ih (i+1) (by omega) (by rw[bJ,h0,hc];simp);rw[show((32*i:Nat):Int)+32=((32*(i+1):Nat):Int) by omega];exact this
  ·rw[bA hc,vE];exact lp ha hl hv ht (tz (val a)-32*i) (32*i) (by omega)
def sp(a:List Int):Prop×List D:=(cG a/\a.length<=1099511627776,[.s (.sc (.int .i64 (if val a=0 then 0 else(tz (val a):Int))))])
theorem spec:iU E f178 aE (pI .u32) sp:=by
 rintro a ⟨ha,hl⟩;refine(start a).trans ?_;show _=some [D.s (.sc (.int .i64 (if val a=0 then 0 else(tz (val a):Int))))]
 by_cases h0:a.length=0
 ·rw[bI,if_pos ((cZ ha).1 h0)]
 ·have hv:val a≠0:=fun h=>h0 ((cZ ha).2 h)
  have ht:tz (val a)<70368744177664:=by
   have h1:=Jp hv;have h2:=dR ha.jE;rw[Ju]at h2;have:=(Nat.pow_lt_pow_iff_right (by decide:1<2)).1 (cHT h1 h2);omega
  rw[bA,if_neg hv];exact skip ha.jE hl hv ht a.length 0 (by omega) (by simp[val])
def aI:dJ:=orc1 (pI .u32) sp
theorem ok:OK 178 aI:=(eB E aE (aA bKW.ok aC) func178).oS rfl spec
end Ha
namespace Hg
def E:=mE [(177,aDY.aI),(178,Ha.aI),(180,bIS.aI),(179,Mk.aI)] 25 [] [] []
def aE:=bd f130
theorem aT:Nk E aE:=nk
theorem start a c d e f g b:aF E f130 aE [D.agg [sc (int u64 a),sc (int i64 c),sc (int i64 d),sc (int i64 e),sc (int u64 f),sc (int u64 g)],D.s (sc (int u64 b))]=letI B:=(a,c,d,e,f,g);letI A:=zs (decide (a<=b)) (nU B (b%a).toNat);aM (yU B/\0<=b/\b<18446744073709551616/\b%a<=kI B+1) (aD (isNeg A) fun h=>aD (dg A.natAbs) fun i=>aM (cG i/\i.length<=1099511627776) (aD (if val i=0 then(0:Int)else(↑(tz (val i)):Int)) fun j=>aM (bZ i/\i.length<=1099511627776/\j<9223372036854775808) (aD (dg (val i/(2:Nat)^j.toNat)) fun k=>aM (bZ k/\k.length<=4398046511104) (some [D.agg [sc (bool (isNeg (zs h (val k)))),ints u32 (dg (zs h (val k)).natAbs)],D.s (sc (int i64 (i64.wrap (d+j))))])))):=eJ aT
def bJF(k:K6)(b:Int):Int×Int:=aR (zs (decide (k.1<=b)) (nU k (b%k.1).toNat)) (kE k)
theorem aHX{k:K6}(hk:yU k){n:Nat}(h:n≠0):nU k n≠0:=by
 have hp:0<2^tP k n:=cEE (by decide);have hm:0<uV k n:=by
  unfold uV;have:0<kH k:=cEE (by decide);split <;> omega
 unfold nU;exact Nat.ne_of_gt (Nat.mul_pos hm hp)
theorem aLR{k:K6}(hk:yU k){n:Nat}(h:(n:Int)<kI k):bl (nU k n)<=2200:=by
 have hm:uV k n<2^53/\tP k n<=2046:=by
  unfold uV tP;rcases hk with rfl |rfl
  ·have e:kH (kf true)=4503599627370496:=rfl;have e2:kI (kf true)=9218868437227405312:=rfl;rw[e2]at h;rw[e];constructor
   ·split <;> omega
   ·omega
  ·have e:kH (kf false)=8388608:=rfl;have e2:kI (kf false)=2139095040:=rfl;rw[e2]at h;rw[e];constructor
   ·split <;> omega
   ·omega
 unfold nU;refine dK.2 ?_;have h1:uV k n*2^tP k n<2^53*2^tP k n:=Nat.mul_lt_mul_of_pos_right hm.1 (cEE (by decide));rw[<-cGE]at h1;exact cCB h1 (Nat.pow_le_pow_right (by decide) (by omega))
def sp(k:K6)(b:Int):Prop×List D:=(yU k/\(0<=b/\b<18446744073709551616)/\b%k.1<kI k/\b%k.1≠0,[zD (bJF k b).1,.s (.sc (.int .i64 (bJF k b).2))])
theorem spec:fL E f130 aE (pG (.pair (sN .u64) (.pair (sN .i64) (.pair (sN .i64) (.pair (sN .i64) (.pair (sN .u64) (sN .u64))))))) (pN .u64) sp:=by
 rintro k b ⟨hk,hb,hs,h0⟩;have pE:0<k.1:=by rcases hk with rfl |rfl <;> decide
 have Nz:0<=b%k.1:=cKI _ (by omega);have hE:-1074<=kE k/\kE k<=0:=by rcases hk with rfl |rfl <;> decide
 refine(start k.1 k.2.1 k.2.2.1 k.2.2.2.1 k.2.2.2.2.1 k.2.2.2.2.2 b).trans ?_;show aM (yU k/\0<=b/\b<18446744073709551616/\b%k.1<=kI k+1) _=_;rw[gP ⟨hk,hb.1,hb.2,by omega⟩];show aD (isNeg (zs (decide (k.1<=b)) (nU k (b%k.1).toNat))) (fun y0=>aD (dg (zs (decide (k.1<=b)) (nU k (b%k.1).toNat)).natAbs) _)=_;unfold sp bJF;dsimp only;have hn:=aHX hk (n:=(b%k.1).toNat) (by omega);have aCZ:=aLR hk (n:=(b%k.1).toNat) (by omega);show _=some [zD (aR (zs (decide (k.1<=b)) (nU k (b%k.1).toNat)) (kE k)).1,D.s (S.sc (Value.int .i64 (aR (zs (decide (k.1<=b)) (nU k (b%k.1).toNat)) (kE k)).2))];have e3:k.2.2.1=kE k:=rfl;rw[e3];generalize nU k (b%k.1).toNat=n at *;generalize decide (k.1<=b)=neg at *;generalize kE k=x at *;have ht:=Dz hn;have hl:=Bk aCZ;have hd:=Ev n (2^tz n);have hq:n/2^tz n≠0:=by have:=(pT _ hn).2;intro h;rw[h]at this;omega
 rw[aYL,kR,Hl,decide_eq_true hn,Bool.and_true,gP ⟨aY _,by omega⟩,bD,if_neg hn,vl,gP ⟨gH _,by omega,by omega⟩,vl,gP ⟨gH _,by rw[cFB];omega⟩,bD,cFB,wrap_i64 (n:=x+(tz n:Int))];unfold aR;rw[if_neg (fun h=>hn (Cv.1 h))];simp only[kR];rw[aLM (b:=neg) (cEE (n:=tz n) (show 0<2 by decide)) (pT _ hn).1];unfold zD;rw[kR]
def aI:dJ:=orc2 (pG (.pair (sN .u64) (.pair (sN .i64) (.pair (sN .i64) (.pair (sN .i64) (.pair (sN .u64) (sN .u64))))))) (pN .u64) sp
theorem ok:OK 130 aI:=(eB E aE (aA aDY.ok (aA Ha.ok (aA bIS.ok (aA Mk.ok aC)))) func130).lF rfl spec
end Hg
namespace Add
def E:=mE [(218,Norm.aI)] 63 [62] [(4,[0,1,5,6,7]),(6,[0,1,5,6,7]),(8,[0,1,5,6,7]),(10,[0,1,5,6,7])] [6,8,10]
def aE:=bd f184
theorem aT:Nk E aE:=nk
def L4 a b (c:Nat) (d:List Int) f g:=pZ E f184 aE 4 [qK a,qK b,(A.v (V.one (L.buf 2 c)),some { e:=(71:Nat),cont:=rH.ints u32 d }),dO f,bN g]
def J6 a b (c:Nat) (d:List Int) f g:=lP E f184 aE 6 [qK a,qK b,(A.v (V.one (L.buf 2 c)),some { e:=(71:Nat),cont:=rH.ints u32 d }),dO f,bN g]
def J8 a b (c:Nat) (d:List Int) f g:=lP E f184 aE 8 [qK a,qK b,(A.v (V.one (L.buf 2 c)),some { e:=(71:Nat),cont:=rH.ints u32 d }),dO f,bN g]
def aSR a b (c:Nat) (d:List Int) f g:=lP E f184 aE 10 [qK a,qK b,(A.v (V.one (L.buf 2 c)),some { e:=(71:Nat),cont:=rH.ints u32 d }),dO f,bN g]
theorem start a b:aF E f184 aE [D.s (ints u32 a),D.s (ints u32 b)]=letI A:=if(b.length:Int)>(a.length:Int)then(b.length:Int)else(a.length:Int);if(0:Int)<=(0:Int)/\0<=i64.wrap (A+1)/\i64.wrap (A+1)<=8796093022208 then Add.L4 a b 0 (cDH 0 (0:Int)) 0 0 else none:=eJ aT
theorem nS a b c d e f:L4 a b c d e f=letI A:=Add.J6 a b c d e f;aB (decide (f<(a.length:Int))) A (aB (decide (f<(b.length:Int))) A (aB (decide (0<e)) A (aM (bZ d/\d.length<=4398046511104) (some [D.own 71 u32 (dg (val d))])))):=lJ aT
theorem vE a b c d e f:J6 a b c d e f=aB (decide (f<(a.length:Int))) (if 0<=f/\f<(a.length:Int)then Add.J8 a b c d (u64.wrap (e+u64.wrap (a.getD f.toNat 0))) f else none) (Add.J8 a b c d e f):=cJ aT
theorem Ai a b c d e f:J8 a b c d e f=aB (decide (f<(b.length:Int))) (if 0<=f/\f<(b.length:Int)then Add.aSR a b c d (u64.wrap (e+u64.wrap (b.getD f.toNat 0))) f else none) (Add.aSR a b c d e f):=cJ aT
theorem aEI a b c d e f:aSR a b c d e f=letI A:=fO BinOp.and u64 e 4294967295;letI B:=d.length+[u32.wrap A].length;if(0:Nat)<[u32.wrap A].length/\(B:Int)<=(8796093022208:Int)then Add.L4 a b B (d ++ [u32.wrap A]) (e/4294967296) (i64.wrap (f+1))else none:=cJ aT
theorem step{a b xs:List Int}{c:Int}{i:Nat}(ha:bZ a)(hb:bZ b)(Ey:xs.length=i)(hi:i<4398046511104)(h0:0<=c)(h1:c<=1)(hc:i<a.length\/i<b.length\/0<c) :
  L4 a b i xs c i=L4 a b (i+1) (xs ++ [(c+a.getD i 0+b.getD i 0)%4294967296]) ((c+a.getD i 0+b.getD i 0)/4294967296) ((i+1:Nat):Int):=by
 have g1:=ha.get i;have g2:=hb.get i;have e':((i:Int)).toNat=i:=cFB i;have bHV:∀s:Int,0<=s->s<18446744073709551616->aSR a b i xs s i=L4 a b (i+1) (xs ++ [s%4294967296]) (s/4294967296) ((i+1:Nat):Int):=by
  intro s hs rT;rw[aEI,oM hs rT,if_pos ⟨by simp,by simp;omega⟩,wrap_u32,cPY _ (Int.dvd_refl _),wrap_i64,Ey];rfl
 have bSY:∀s:Int,0<=s->s<8589934592->J8 a b i xs s i=aSR a b i xs (s+b.getD i 0) i:=by
  intro s hs rT;rw[Ai]
  by_cases h:i<b.length
  ·rw[aN,aQ,e',wrap_u64 (n:=b.getD i 0),wrap_u64]
  ·rw[aL,getD_none (a:=b) (by omega),cLL]
 have bPA:J6 a b i xs c i=L4 a b (i+1) (xs ++ [(c+a.getD i 0+b.getD i 0)%4294967296]) ((c+a.getD i 0+b.getD i 0)/4294967296) ((i+1:Nat):Int):=by
  rw[vE]
  by_cases h:i<a.length
  ·rw[aN,aQ,e',wrap_u64 (n:=a.getD i 0),wrap_u64,bSY _ (by omega) (by omega),bHV _ (by omega) (by omega)]
  ·rw[aL,getD_none (a:=a) (by omega),cLL,bSY _ (by omega) (by omega),bHV _ (by omega) (by omega)]
 rw[nS]
 by_cases h:i<a.length
 ·rw[aN,bPA]
 ·rw[aL]
  by_cases h':i<b.length
  ·rw[aN,bPA]
  ·rw[aL,aN,bPA]
theorem L{a b:List Int}(ha:bZ a)(hb:bZ b)(aXT:a.length<=1099511627776)(bNL:b.length<=1099511627776):∀(d i:Nat) (xs:List Int) (c:Int),bZ xs->xs.length=i->0<=c->c<=1 ->
  i+d=max a.length b.length+1->(d=0->c=0)->val xs+4294967296^i*c.toNat=val (a.take i)+val (b.take i) ->
  L4 a b i xs c i=some [D.own uD .u32 (dg (val a+val b))]:=by
 intro d
 induction d with
 |zero =>
  intro i xs c hx Ey h0 h1 hd hc hv;have hc:=hc rfl;subst hc;rw[nS,aL,aL,aL,gP ⟨hx,by omega⟩];rw[bV (by omega),bV (by omega)]at hv;simp at hv;rw[hv]
 |succ d ih =>
  intro i xs c hx Ey h0 h1 hd hc hv
  by_cases bJY:i<a.length\/i<b.length\/0<c
  ·have g1:=ha.get i;have g2:=hb.get i;rw[step ha hb Ey (by omega) h0 h1 bJY];refine ih (i+1) _ _ (mG hx (by omega)) (by simp[Ey]) (by omega) (by omega) (by omega) (fun hd0=>?_) ?_
   ·have:¬i<a.length:=by omega
    have:¬i<b.length:=by omega
    rw[getD_none (a:=a) (by omega),getD_none (a:=b) (by omega)];omega
   ·rw[lY,bJ,bJ,Ey,cGD,cGH];generalize a.getD i 0=x at *;generalize b.getD i 0=y at *;generalize 4294967296^i=B at *;have e:4294967296*((c+x+y)/4294967296).toNat+((c+x+y)%4294967296).toNat=c.toNat+x.toNat+y.toNat:=by omega
    have e2:B*(4294967296*((c+x+y)/4294967296).toNat)+B*((c+x+y)%4294967296).toNat=B*c.toNat+B*x.toNat+B*y.toNat:=by
     rw[<-cGF,e,cGF,cGF]
    omega
  ·have:c=0:=by omega
   subst this;rw[nS,aL,aL,aL,gP ⟨hx,by omega⟩];rw[bV (by omega),bV (by omega)]at hv;simp at hv;rw[hv]
def sp(a b:List Int):Prop×List D:=(bZ a/\bZ b/\a.length<=1099511627776/\b.length<=1099511627776,[.own uD .u32 (dg (val a+val b))])
theorem spec:fL E f184 aE (pI .u32) (pI .u32) sp:=by
 rintro a b ⟨ha,hb,h1,h2⟩;refine(start a b).trans ?_;rw[if_pos]
 ·exact L ha hb h1 h2 (max a.length b.length+1) 0 [] 0 mQ rfl (by omega) (by omega) (by omega) (fun _=>rfl) (by simp[val])
 ·refine⟨by omega,?_,?_⟩ <;> rw[wrap_i64 ?_ ?_] <;> split <;> omega
def aI:dJ:=orc2 (pI .u32) (pI .u32) sp
theorem ok:OK 184 aI:=(eB E aE (aA Norm.ok aC) func184).lF rfl spec
end Add
namespace aWO
def E:=mE [] 41 [] [(6,[0,1,5])] []
def aE:=bd f246
theorem aT:Nk E aE:=nk
def L6 a b c:=pZ E f246 aE 6 [qK a,qK b,bN c]
theorem start a b:aF E f246 aE [D.s (ints u32 a),D.s (ints u32 b)]=letI A:=(a.length:Int);aB (A !=(b.length:Int)) (aB (decide (A<(b.length:Int))) (some [D.s (sc (int i64 (-1:Int)))]) (some [D.s (sc (int i64 1))])) (aWO.L6 a b (i64.wrap (A-(1:Int)))):=eJ aT
theorem vD a b c:L6 a b c=aB (decide (0<=c)) (if 0<=c/\c<(a.length:Int)then if 0<=c/\c<(b.length:Int)then aB (decide (a.getD c.toNat 0<b.getD c.toNat 0)) (some [D.s (sc (int i64 (-1:Int)))]) (if 0<=c/\c<(a.length:Int)then if 0<=c/\c<(b.length:Int)then aB (decide (b.getD c.toNat 0<a.getD c.toNat 0)) (some [D.s (sc (int i64 1))]) (aWO.L6 a b (i64.wrap (c-1)))else none else none)else none else none) (some [D.s (sc (int i64 0))]):=lJ aT
theorem L{a b:List Int}(ha:bZ a)(hb:bZ b)(hl:a.length=b.length)(hm:a.length<=4398046511104):∀n:Nat,n<=a.length->L6 a b ((n:Int)-1)=some [D.s (.sc (.int .i64 (jK (val (a.take n)) (val (b.take n)))))]
 |0,_=>by
  rw[vD,aL];simp[jK,val]
 |n+1,h=>by
  have e:(((n+1:Nat):Int)-1)=(n:Int):=by omega
  have e':((n:Int)).toNat=n:=cFB n;rw[e,vD,aN,aQ,aQ,aQ,aQ,e',wrap_i64,L ha hb hl hm n (by omega)];have h1:=ha.get n;have h2:=hb.get n;have l1:=iG ha n;have l2:=iG hb n;rw[bJ,bJ];generalize a.getD n 0=x at *;generalize b.getD n 0=y at *;generalize val (a.take n)=u at *;generalize val (b.take n)=v at *;generalize 4294967296^n=B at *
  by_cases aSL:x<y
  ·rw[aN aSL];have:B*x.toNat+B<=B*y.toNat:=by
    have:B*(x.toNat+1)<=B*y.toNat:=cDS _ (by omega);rw[cGF]at this;omega
   unfold jK;rw[aQ]
  ·rw[aL aSL]
   by_cases bMD:y<x
   ·rw[aN bMD];have:B*y.toNat+B<=B*x.toNat:=by
     have:B*(y.toNat+1)<=B*x.toNat:=cDS _ (by omega);rw[cGF]at this;omega
    unfold jK;rw[aO,aQ]
   ·rw[aL bMD];have:x=y:=by omega
    subst this;rw[Zy]
def sp(a b:List Int):Prop×List D:=(cG a/\cG b/\a.length<=4398046511104/\b.length<=4398046511104,[.s (.sc (.int .i64 (jK (val a) (val b))))])
theorem spec:fL E f246 aE (pI .u32) (pI .u32) sp:=by
 rintro a b ⟨ha,hb,h1,h2⟩;refine(start a b).trans ?_;show _=some [D.s (.sc (.int .i64 (jK (val a) (val b))))]
 by_cases hl:a.length=b.length
 ·rw[gD,wrap_i64,L ha.jE hb.jE hl h1 a.length (cBE _),bV (cBE _),bV (by omega)]
 ·rw[nW]
  by_cases kM:a.length<b.length
  ·have:=oJ ha.jE hb kM;rw[aN];unfold jK;rw[if_pos this]
  ·have:=oJ hb.jE ha (by omega);rw[aL];unfold jK;rw[aO,if_pos this]
def aI:dJ:=orc2 (pI .u32) (pI .u32) sp
theorem ok:OK 246 aI:=(eB E aE aC func246).lF rfl spec
end aWO
namespace Sub
def E:=mE [(218,Norm.aI),(185,Ca.aI),(246,aWO.aI)] 55 [14,54] [(6,[0,1,5,6,7]),(11,[0,1,5,7,8])] [11]
def aE:=bd f247
theorem aT:Nk E aE:=nk
def L6 a b (c:Nat) (d:List Int) f g:=pZ E f247 aE 6 [qK a,qK b,(A.v (V.one (L.buf 2 c)),some { e:=(71:Nat),cont:=rH.ints u32 d }),dO f,bN g]
def aBK a b (c:Nat) (d:List Int) f g:=lP E f247 aE 11 [qK a,qK b,(A.v (V.one (L.buf 2 c)),some { e:=(71:Nat),cont:=rH.ints u32 d }),bN f,dO g]
theorem start a b:aF E f247 aE [D.s (ints u32 a),D.s (ints u32 b)]=aM (cG a/\cG b/\a.length<=4398046511104/\b.length<=4398046511104) (aB (decide (jK (val a) (val b)<=0)) (aM ((0:Int)<=(0:Int)/\(0:Int)<(18446744073709551616:Int)) (some [D.own 71 u32 (dg 0)])) (if(0:Int)<=(0:Int)/\0<=(a.length:Int)/\(a.length:Int)<=(8796093022208:Int)then Sub.L6 a b 0 (cDH 0 (0:Int)) 0 0 else none)):=eJ aT
theorem vD a b c d e f:L6 a b c d e f=aB (decide (f<(a.length:Int))) (aB (decide (f<(b.length:Int))) (if 0<=f/\f<(b.length:Int)then Sub.aBK a b c d f (u64.wrap (e+u64.wrap (b.getD f.toNat 0)))else none) (Sub.aBK a b c d f e)) (aM (bZ d/\d.length<=4398046511104) (some [D.own 71 u32 (dg (val d))])):=lJ aT
theorem Fj a b c d e f:aBK a b c d e f=letI C:=a.getD e.toNat 0;letI B:=u64.wrap (u64.wrap C-f);letI G:=d.length+[u32.wrap B].length;letI A:=u64.wrap (u64.wrap (u64.wrap C+4294967296)-f);letI F:=d.length+[u32.wrap A].length;if 0<=e/\e<(a.length:Int)then aB (decide (u64.wrap C<f)) (if(0:Nat)<[u32.wrap A].length/\(F:Int)<=(8796093022208:Int)then Sub.L6 a b F (d ++ [u32.wrap A]) 1 (i64.wrap (e+1))else none) (if(0:Nat)<[u32.wrap B].length/\(G:Int)<=(8796093022208:Int)then Sub.L6 a b G (d ++ [u32.wrap B]) 0 (i64.wrap (e+1))else none)else none:=cJ aT
theorem step{a b xs:List Int}{o:Int}{i:Nat}(ha:bZ a)(hb:bZ b)(Ey:xs.length=i)(hi:i<a.length)(aXT:a.length<=4398046511104)(h0:0<=o)(h1:o<=1) :
  L6 a b i xs o i=L6 a b (i+1) (xs ++ [(a.getD i 0-(o+b.getD i 0))%4294967296]) (if a.getD i 0<o+b.getD i 0 then 1 else 0) ((i+1:Nat):Int):=by
 have g1:=ha.get i;have g2:=hb.get i;have e':((i:Int)).toNat=i:=cFB i;have hJ:∀t:Int,0<=t->t<=4294967296->aBK a b i xs i t=L6 a b (i+1) (xs ++ [(a.getD i 0-t)%4294967296]) (if a.getD i 0<t then 1 else 0) ((i+1:Nat):Int):=by
  intro t ht ht';rw[Fj,aQ,e',wrap_u64 (n:=a.getD i 0),wrap_u64 (n:=a.getD i 0+4294967296)]
  by_cases h:a.getD i 0<t
  ·rw[aN h,if_pos ⟨by simp,by simp;omega⟩,if_pos h,wrap_u64 (n:=a.getD i 0+4294967296-t),wrap_u32,wrap_i64,Ey,show(a.getD i 0+4294967296-t)%4294967296=(a.getD i 0-t)%4294967296 from by omega];rfl
  ·rw[aL h,if_pos ⟨by simp,by simp;omega⟩,if_neg h,wrap_u64 (n:=a.getD i 0-t),wrap_u32,wrap_i64,Ey];rfl
 rw[vD,aN]
 by_cases h:i<b.length
 ·rw[aN,aQ,e',wrap_u64 (n:=b.getD i 0),wrap_u64,hJ _ (by omega) (by omega)]
 ·rw[aL,getD_none (a:=b) (by omega),cLL,hJ _ (by omega) (by omega)]
theorem L{a b:List Int}(ha:bZ a)(hb:bZ b)(aXT:a.length<=4398046511104)(Qn:b.length<=a.length)(aVA:val b<=val a):∀(d i:Nat) (xs:List Int) (o:Int),bZ xs->xs.length=i->0<=o->o<=1 ->
  i+d=a.length->val xs+val (b.take i)=val (a.take i)+4294967296^i*o.toNat ->
  L6 a b i xs o i=some [D.own uD .u32 (dg (val a-val b))]:=by
 intro d
 induction d with
 |zero =>
  intro i xs o hx Ey h0 h1 hd hv;rw[vD,aL,gP ⟨hx,by omega⟩];rw[bV (by omega),bV (by omega)]at hv;have bMH:=dR hx;rw[Ey]at bMH;have:o=0:=by
   by_cases ho:o=0
   ·exact ho
   ·exfalso;have:o=1:=by omega
    subst this;have h1:(1:Int).toNat=1:=rfl;rw[h1,Nat.mul_one]at hv;omega
  subst this;simp at hv;rw[show val xs=val a-val b from by omega]
 |succ d ih =>
  intro i xs o hx Ey h0 h1 hd hv;have g1:=ha.get i;have g2:=hb.get i;rw[step ha hb Ey (by omega) aXT h0 h1];refine ih (i+1) _ _ (mG hx (by omega)) (by simp[Ey]) (by split <;> omega) (by split <;> omega) (by omega) ?_;rw[lY,bJ,bJ,Ey,cGD,cGH];generalize a.getD i 0=x at *;generalize b.getD i 0=y at *;have e:((x-(o+y))%4294967296).toNat+y.toNat+o.toNat=x.toNat+4294967296*(if x<o+y then 1 else 0:Int).toNat:=by split <;> omega
  generalize 4294967296^i=B at *;have e2:=congrArg (B*·) e;simp only[cGF]at e2;omega
def sp(a b:List Int):Prop×List D:=(cG a/\cG b/\a.length<=4398046511104/\b.length<=4398046511104,[.own uD .u32 (dg (val a-val b))])
theorem spec:fL E f247 aE (pI .u32) (pI .u32) sp:=by
 rintro a b ⟨ha,hb,h1,h2⟩;refine(start a b).trans ?_;show _=some [D.own uD .u32 (dg (val a-val b))];rw[gP ⟨ha,hb,h1,h2⟩]
 by_cases hc:val a<=val b
 ·rw[aN (by unfold jK;split <;> (try split) <;> omega),gP ⟨by omega,by omega⟩,show val a-val b=0 from by omega]
 ·have hl:b.length<=a.length:=by
   rcases Nat.lt_or_ge a.length b.length with h |h
   ·have:=oJ ha.jE hb h;omega
   ·exact h
  rw[aL (by unfold jK;rw[aO,aQ];omega),if_pos ⟨by omega,by omega,by omega⟩];exact L ha.jE hb.jE h1 hl (by omega) a.length 0 [] 0 mQ rfl (by omega) (by omega) (by omega) (by simp[val])
def aI:dJ:=orc2 (pI .u32) (pI .u32) sp
theorem ok:OK 247 aI:=(eB E aE (aA Norm.ok (aA Ca.ok (aA aWO.ok aC))) func247).lF rfl spec
end Sub
namespace bCJ
def E:=mE [(179,Mk.aI),(184,Add.aI),(246,aWO.aI),(247,Sub.aI)] 40 [] [] []
def aE:=bd f220
theorem aT:Nk E aE:=nk
theorem start a b c d:aF E f220 aE [D.agg [sc (bool a),ints u32 b],D.agg [sc (bool c),ints u32 d]]=letI F:=dg (val d-val b);letI C:=dg (val b-val d);letI B:=dg (val b+val d);letI A:=cG b/\cG d/\b.length<=4398046511104/\d.length<=4398046511104;aB (a==c) (aM (bZ b/\bZ d/\b.length<=1099511627776/\d.length<=1099511627776) (aM (bZ B/\B.length<=4398046511104) (some [D.agg [sc (bool (isNeg (zs a (val B)))),ints u32 (dg (zs a (val B)).natAbs)]]))) (aM A (aB (decide (0<=jK (val b) (val d))) (aM A (aM (bZ C/\C.length<=4398046511104) (some [D.agg [sc (bool (isNeg (zs a (val C)))),ints u32 (dg (zs a (val C)).natAbs)]]))) (aM (cG d/\cG b/\d.length<=4398046511104/\b.length<=4398046511104) (aM (bZ F/\F.length<=4398046511104) (some [D.agg [sc (bool (isNeg (zs c (val F)))),ints u32 (dg (zs c (val F)).natAbs)]]))))):=eJ aT
def sp(x y:Bool×List Int):Prop×List D:=(yT x/\yT y,[zD (zv x+zv y)])
theorem spec:fL E f220 aE Fl Fl sp:=by
 intro x y h;refine(start x.1 x.2 y.1 y.2).trans ?_;obtain⟨hx,hy⟩:=h;have l1:=hx.len;have l2:=hy.len;have l3:=Nr (val x.2) (val y.2);have l4:=Eu (val x.2) (val y.2);have l5:=Eu (val y.2) (val x.2);rw[vQ hx.1,vQ hy.1]at l3;rw[vQ hx.1]at l4;rw[vQ hy.1]at l5;simp only[bD];show _=some [zD (zv x+zv y)];rw[gP ⟨hx.1.jE,hy.1.jE,by omega,by omega⟩,gP ⟨gH _,by omega⟩,gP ⟨hx.1,hy.1,by omega,by omega⟩,gP ⟨hx.1,hy.1,by omega,by omega⟩,gP ⟨gH _,by omega⟩,gP ⟨hy.1,hx.1,by omega,by omega⟩,gP ⟨gH _,by omega⟩]
 by_cases he:x.1=y.1
 ·rw[aRC (by rw[he];simp)];have:zs x.1 (val x.2+val y.2)=zv x+zv y:=by
   unfold zv zs;rw[<-he];cases x.1 <;> simp <;> omega
  rw[this];rfl
 ·rw[Pj (by simpa using he)]
  by_cases hc:val y.2<=val x.2
  ·rw[aN (Lv.2 hc)];have:zs x.1 (val x.2-val y.2)=zv x+zv y:=by
    unfold zv zs;cases h1:x.1 <;> cases h2:y.1 <;> simp_all <;> omega
   rw[this];rfl
  ·rw[aL (fun h=>hc (Lv.1 h))];have:zs y.1 (val y.2-val x.2)=zv x+zv y:=by
    unfold zv zs;cases h1:x.1 <;> cases h2:y.1 <;> simp_all <;> omega
   rw[this];rfl
def aI:dJ:=orc2 Fl Fl sp
theorem ok:OK 220 aI:=(eB E aE (aA Mk.ok (aA Add.ok (aA aWO.ok (aA Sub.ok aC)))) func220).lF rfl spec
end bCJ
namespace bCZ
def E:=mE [(179,Mk.aI)] 9 [] [] []
def aE:=bd f221
theorem aT:Nk E aE:=nk
theorem start a b:aF E f221 aE [D.agg [sc (bool a),ints u32 b]]=aM (bZ b/\b.length<=4398046511104) (some [D.agg [sc (bool (isNeg (zs (!a) (val b)))),ints u32 (dg (zs (!a) (val b)).natAbs)]]):=eJ aT
def sp(x:Bool×List Int):Prop×List D:=(yT x,[zD (-zv x)])
theorem spec:iU E f221 aE Fl sp:=by
 intro x h;refine(start x.1 x.2).trans ((gP ⟨h.1.jE,by have:=h.len;omega⟩).trans ?_);show _=some [zD (-zv x)];have:zs (!x.1) (val x.2)=-zv x:=by unfold zv zs;cases x.1 <;> simp
 rw[this];rfl
def aI:dJ:=orc1 Fl sp
theorem ok:OK 221 aI:=(eB E aE (aA Mk.ok aC) func221).oS rfl spec
end bCZ
namespace bCH
def E:=mE [(220,bCJ.aI),(221,bCZ.aI)] 9 [] [] []
def aE:=bd f181
theorem aT:Nk E aE:=nk
theorem start a b c d:aF E f181 aE [D.agg [sc (bool a),ints u32 b],D.agg [sc (bool c),ints u32 d]]=letI A:=(isNeg (-zv (c,d)),dg (-zv (c,d)).natAbs);aM (yT (c,d)) (aM (yT (a,b)/\yT A) (some [D.agg [sc (bool (isNeg (zv (a,b)+zv A))),ints u32 (dg (zv (a,b)+zv A).natAbs)]])):=eJ aT
def sp(x y:Bool×List Int):Prop×List D:=(yT x/\yT y,[zD (zv x-zv y)])
theorem spec:fL E f181 aE Fl Fl sp:=by
 intro x y h;refine(start x.1 x.2 y.1 y.2).trans ?_;obtain⟨hx,hy⟩:=h;have l2:=hy.len;rw[gP hy,gP ⟨hx,aBL (by rw[Int.natAbs_neg,Tr,vQ hy.1];exact l2)⟩,Rs];show _=some [zD (zv x-zv y)];rw[Int.sub_eq_add_neg];rfl
def aI:dJ:=orc2 Fl Fl sp
theorem ok:OK 181 aI:=(eB E aE (aA bCJ.ok (aA bCZ.ok aC)) func181).lF rfl spec
end bCH
namespace Mul
def E:=mE [(218,Norm.aI)] 70 [69] [(8,[0,1,5,6,7,8,9]),(3,[0,1,5,6])] []
def aE:=bd f222
theorem aT:Nk E aE:=nk
def L3 a b (c:Nat) (d:List Int) f:=pZ E f222 aE 3 [qK a,qK b,(A.v (V.one (L.buf 2 c)),some { e:=(71:Nat),cont:=rH.ints u32 d }),bN f]
def L8 a b (c:Nat) (d:List Int) f g h i:=pZ E f222 aE 8 [qK a,qK b,(A.v (V.one (L.buf 2 c)),some { e:=(71:Nat),cont:=rH.ints u32 d }),bN f,dO g,dO h,bN i]
theorem start a b:aF E f222 aE [D.s (ints u32 a),D.s (ints u32 b)]=letI A:=(a.length:Int);letI B:=A+(b.length:Int);if 0<=i64.wrap B/\i64.wrap B<=i64.wrap B/\i64.wrap B<=8796093022208 then Mul.L3 a b (i64.wrap B).toNat (cDH (i64.wrap B).toNat (0:Int)) 0 else none:=eJ aT
theorem xK a b c d e:L3 a b c d e=aB (decide (e<(a.length:Int))) (if 0<=e/\e<(a.length:Int)then Mul.L8 a b c d e 0 (u64.wrap (a.getD e.toNat 0)) 0 else none) (aM (bZ d/\d.length<=4398046511104) (some [D.own 71 u32 (dg (val d))])):=lJ aT
theorem Cr a b c d e f g h:L8 a b c d e f g h=letI B:=(b.length:Int);letI A:=f+u64.wrap (u64.wrap (d.getD (i64.wrap (e+h)).toNat 0)+u64.wrap (g*u64.wrap (b.getD h.toNat 0)));aB (decide (h<B)) (if 0<=i64.wrap (e+h)/\i64.wrap (e+h)<(c:Int)then if 0<=h/\h<B then if 0<=i64.wrap (e+h)/\i64.wrap (e+h)<(c:Int)then Mul.L8 a b c (d.set (i64.wrap (e+h)).toNat (u32.wrap (fO BinOp.and u64 (u64.wrap A) 4294967295))) e (u64.wrap A/4294967296) g (i64.wrap (h+1))else none else none else none) (if 0<=i64.wrap (e+B)/\i64.wrap (e+B)<(c:Int)then Mul.L3 a b c (d.set (i64.wrap (e+B)).toNat (u32.wrap f)) (i64.wrap (e+1))else none):=lJ aT
theorem oT{a:List Int}{n:Nat}(h:n<a.length)(d:Int):val (a.set n d)+4294967296^n*(a.getD n 0).toNat=val a+4294967296^n*d.toNat:=by
 have h1:=iJ (a.set n d) (n:=n) (by rw[cQW];omega);have h2:=iJ a (n:=n) (by omega);rw[List.take_set_of_le (cBE n),qM h]at h1;rw[iL]at h2;rw[h1,h2,cGF,cGF];omega
theorem Zh{a:List Int}{n m:Nat}(h:n≠m)(d:Int):(a.set n d).getD m 0=a.getD m 0:=by
 simp only[cGI];rw[List.getElem?_set_ne h]
theorem inner{a b:List Int}(hb:bZ b)(aXT:a.length<=549755813888)(bNL:b.length<=549755813888){i:Nat}(hi:i<a.length){x:Int}(Qx:0<=x)(aUN:x<4294967296){V:Nat}
  (K:List Int->Option (List D)) (hK:∀p c,bZ p->p.length=a.length+b.length->(0<=c/\c<4294967296)->(∀k,i+b.length<=k->p.getD k 0=0)->val p+4294967296^(i+b.length)*c.toNat=V+4294967296^i*(x.toNat*val b)->L3 a b (a.length+b.length) (p.set (i+b.length) c) ((i+1:Nat):Int)=K p) :
  ∀(d j:Nat) (p:List Int) (c:Int),bZ p->p.length=a.length+b.length->0<=c->c<4294967296->(∀k,i+b.length<=k->p.getD k 0=0)->j+d=b.length ->
  val p+4294967296^(i+j)*c.toNat=V+4294967296^i*(x.toNat*val (b.take j)) ->
  ∃q,L8 a b (a.length+b.length) p (i:Int) c x (j:Int)=K q:=by
 intro d
 induction d with
 |zero =>
  intro j p c hp hl h0 h1 hz hd hv;have hj:j=b.length:=by omega
  subst hj;rw[List.take_length]at hv;rw[Cr,aL,wrap_i64 (n:=(i:Int)+(b.length:Int)),aQ,wrap_u32,Int.emod_eq_of_lt h0 h1,wrap_i64 (n:=(i:Int)+1),show((i:Int)+(b.length:Int)).toNat=i+b.length by omega];exact⟨p,hK p c hp hl ⟨h0,h1⟩ hz hv⟩
 |succ d ih =>
  intro j p c hp hl h0 h1 hz hd hv;have g1:=hb.get j;have g2:=hp.get (i+j);have hm:x*b.getD j 0<=4294967295*4294967295:=by
   have h1:x*b.getD j 0<=4294967295*b.getD j 0:=Int.mul_le_mul_of_nonneg_right (by omega) g1.1;omega
  have Sq:0<=x*b.getD j 0:=Int.mul_nonneg Qx g1.1;have e':((i:Int)+(j:Int)).toNat=i+j:=by omega
  rw[Cr,aN,wrap_i64 (n:=(i:Int)+(j:Int)),aQ,aQ,aQ,e',cFB,wrap_u64 (n:=p.getD (i+j) 0),wrap_u64 (n:=b.getD j 0),wrap_u64 (n:=x*b.getD j 0),wrap_u64 (n:=p.getD (i+j) 0+x*b.getD j 0),wrap_u64 (n:=c+(p.getD (i+j) 0+x*b.getD j 0)),
   oM (by omega) (by omega),wrap_u32,cPY _ (Int.dvd_refl _),wrap_i64 (n:=(j:Int)+1)]
  have hs:=oT (a:=p) (n:=i+j) (by omega) ((c+(p.getD (i+j) 0+x*b.getD j 0))%4294967296);refine ih (j+1) _ _ (nI hp (by omega)) (by rw[cQW];exact hl) (by omega) (by omega) (fun k hk=>by rw[Zh (by omega)];exact hz k hk) (by omega) ?_;rw[bJ,cGF];have et:(x*b.getD j 0).toNat=x.toNat*(b.getD j 0).toNat:=Int.toNat_mul Qx g1.1;have e:4294967296*((c+(p.getD (i+j) 0+x*b.getD j 0))/4294967296).toNat+((c+(p.getD (i+j) 0+x*b.getD j 0))%4294967296).toNat=c.toNat+((p.getD (i+j) 0).toNat+x.toNat*(b.getD j 0).toNat):=by rw[<-et];omega
  have pw:4294967296^(i+(j+1))=4294967296^(i+j)*4294967296:=by rw[<-Nat.add_assoc,cGD]
  have pi:4294967296^i*(x.toNat*(4294967296^j*(b.getD j 0).toNat))=4294967296^(i+j)*(x.toNat*(b.getD j 0).toNat):=by
   rw[cGE,Nat.mul_left_comm x.toNat,<-cGH]
  rw[pw,cGF,pi];generalize 4294967296^(i+j)=B at *;generalize (c+(p.getD (i+j) 0+x*b.getD j 0))/4294967296=u at *;generalize (c+(p.getD (i+j) 0+x*b.getD j 0))%4294967296=w at *;have e2:=congrArg (B*·) e;rw[cGF,cGF,cGF]at e2;rw[cGH];omega
theorem outer{a b:List Int}(ha:bZ a)(hb:bZ b)(aXT:a.length<=549755813888)(bNL:b.length<=549755813888):∀(d i:Nat) (p:List Int),bZ p->p.length=a.length+b.length->(∀k,i+b.length<=k->p.getD k 0=0)->i+d=a.length->val p=val (a.take i)*val b ->
  L3 a b (a.length+b.length) p (i:Int)=some [D.own uD .u32 (dg (val a*val b))]:=by
 intro d
 induction d with
 |zero =>
  intro i p hp hl hz hd hv;rw[xK,aL,gP ⟨hp,by omega⟩,hv,bV (by omega)]
 |succ d ih =>
  intro i p hp hl hz hd hv;have g:=ha.get i;rw[xK,aN,aQ,cFB,wrap_u64 (n:=a.getD i 0)];obtain⟨q,hq⟩:=inner (a:=a) (b:=b) hb aXT bNL (i:=i) (by omega) g.1 g.2 (V:=val p) (fun _=>some [D.own uD .u32 (dg (val a*val b))]) (by
   intro q c hq bJP hc bRY bWT;have g3:=bRY (i+b.length) (cBE _);have hs:=oT (a:=q) (n:=i+b.length) (by omega) c;rw[g3,show(0:Int).toNat=0 from rfl,Nat.mul_zero,cCC,bWT]at hs;refine ih (i+1) _ (nI hq hc) (by rw[cQW];exact bJP) (fun k hk=>by rw[Zh (by omega)];exact bRY k (by omega)) (by omega) ?_;rw[hs,hv,bJ,Nat.add_mul,cGH]) b.length 0 p 0 hp hl (by omega) (by omega) hz (by omega) (by simp[val])
  exact hq
def sp(a b:List Int):Prop×List D:=(bZ a/\bZ b/\a.length<=549755813888/\b.length<=549755813888,[.own uD .u32 (dg (val a*val b))])
theorem spec:fL E f222 aE (pI .u32) (pI .u32) sp:=by
 rintro a b ⟨ha,hb,h1,h2⟩;refine(start a b).trans ?_;have e:i64.wrap ((a.length:Int)+(b.length:Int))=((a.length+b.length:Nat):Int):=by rw[wrap_i64];omega
 rw[e,aQ,cFB];refine outer ha hb h1 h2 a.length 0 _ (jH _) (by simp) (fun k _=>?_) (by omega) (by simp[val,jG]);simp only[cGI,List.getElem?_replicate];split <;> rfl
def aI:dJ:=orc2 (pI .u32) (pI .u32) sp
theorem ok:OK 222 aI:=(eB E aE (aA Norm.ok aC) func222).lF rfl spec
end Mul
namespace bCI
def E:=mE [(222,Mul.aI),(179,Mk.aI)] 16 [] [] []
def aE:=bd f182
theorem aT:Nk E aE:=nk
theorem start a b c d:aF E f182 aE [D.agg [sc (bool a),ints u32 b],D.agg [sc (bool c),ints u32 d]]=letI A:=dg (val b*val d);letI B:=zs (a !=c) (val A);aM (bZ b/\bZ d/\b.length<=549755813888/\d.length<=549755813888) (aM (bZ A/\A.length<=4398046511104) (some [D.agg [sc (bool (isNeg B)),ints u32 (dg B.natAbs)]])):=eJ aT
def sp(x y:Bool×List Int):Prop×List D:=(yT x/\yT y,[zD (zv x*zv y)])
theorem spec:fL E f182 aE Fl Fl sp:=by
 rintro x y ⟨hx,hy⟩;refine(start x.1 x.2 y.1 y.2).trans ?_;have l1:=hx.len;have l2:=hy.len;have hl:(dg (val x.2*val y.2)).length<=x.2.length+y.2.length:=by
  refine dP ?_;rw[cGE];exact Nat.mul_lt_mul_of_lt_of_lt (dR hx.1.jE) (dR hy.1.jE)
 rw[gP ⟨hx.1.jE,hy.1.jE,by omega,by omega⟩,gP ⟨gH _,by omega⟩,bD];show _=some [zD (zv x*zv y)];have:zs (x.1 !=y.1) (val x.2*val y.2)=zv x*zv y:=by
  unfold zv zs;cases x.1 <;> cases y.1 <;> simp[cHC,Int.neg_mul,cKE]
 rw[this];rfl
def aI:dJ:=orc2 Fl Fl sp
theorem ok:OK 182 aI:=(eB E aE (aA Mul.ok (aA Mk.ok aC)) func182).lF rfl spec
end bCI
end W
namespace M
theorem aGD(v q:Nat)(hq:0<q):(-(v:Int))/(q:Int)=if v%q=0 then -((v/q:Nat):Int)else -((v/q:Nat):Int)-1:=by
 have hd:=cGK v q;have hm:=cDM v hq
 by_cases h:v%q=0
 ·rw[if_pos h];have e:-(v:Int)=(q:Int)*(-((v/q:Nat):Int)):=by
   rw[cKE,<-cHC];generalize q*(v/q)=t at *;omega
  rw[e,Int.mul_ediv_cancel_left _ (by omega)]
 ·rw[if_neg h];have e:-(v:Int)=((q-v%q:Nat):Int)+(q:Int)*(-((v/q:Nat):Int)-1):=by
   rw[Int.mul_sub,cKE,<-cHC,Int.mul_one];generalize q*(v/q)=t at *;generalize v%q=r at *;omega
  rw[e,Int.add_mul_ediv_left _ _ (by omega),Int.ediv_eq_zero_of_lt (by omega) (by omega)];omega
end M
namespace W
open Go AI M
namespace aRF
def E:=mE [] 11 [] [] []
def aE:=bd f248
theorem aT:Nk E aE:=nk
theorem start a b:aF E f248 aE [D.agg [sc (bool a),ints u32 b]]=aB ((b.length:Int)==(0:Int)) (some [D.s (sc (int i64 0))]) (aB a (some [D.s (sc (int i64 (-1:Int)))]) (some [D.s (sc (int i64 1))])):=eJ aT
def sp(x:Bool×List Int):Prop×List D:=(yT x,[.s (.sc (.int .i64 (lI (zv x) 0)))])
theorem spec:iU E f248 aE Fl sp:=by
 intro x h;refine(start x.1 x.2).trans ?_;obtain⟨h1,h2,h3⟩:=h;unfold sp;simp only
 by_cases hz:x.2.length=0
 ·have:=(cZ h1).1 hz;rw[bI];cases hx:x.1 with
  |true=>exact(h2 hx this).elim
  |false=>rw[aLL hx,this];rfl
 ·have hv:val x.2≠0:=fun h=>hz ((cZ h1).2 h)
  rw[bA];cases hx:x.1 with
  |true=>rw[bT,aYJ hx];unfold lI;rw[aQ]
  |false=>rw[bF,aLL hx];unfold lI;rw[aO,aQ]
def aI:dJ:=orc1 Fl sp
theorem ok:OK 248 aI:=(eB E aE aC func248).oS rfl spec
end aRF
namespace Wu
def E:=mE [(185,Ca.aI),(246,aWO.aI),(218,Norm.aI),(219,wX.aI)] 98 [17,18,23,25,34,40,53,91,97] [(16,[8,9,10,11,12,13]),(11,[0,8,9,10])] []
def aE:=bd f249
theorem aT:Nk E aE:=nk
theorem start a b:aF E f249 aE [D.s (ints u32 a),D.s (ints u32 b)]=letI A:=(b.length:Int);aB (A==(0:Int)) (aM ((0:Int)<=(0:Int)/\(0:Int)<(18446744073709551616:Int)) (aM ((0:Int)<=(0:Int)/\(0:Int)<(18446744073709551616:Int)) (some [D.own 71 u32 (dg 0),D.own 71 u32 (dg 0)]))) (aM (cG a/\cG b/\a.length<=4398046511104/\b.length<=4398046511104) (aB (decide (jK (val a) (val b)<0)) (aM ((0:Int)<=(0:Int)/\(0:Int)<(18446744073709551616:Int)) (aM (bZ a/\a.length<=4398046511104) (some [D.own 71 u32 (dg 0),D.own 71 u32 (dg (val a))]))) (aB (A==(1:Int)) (if(0:Int)<=(0:Int)/\0<A then aM (bZ a/\a.length<=1099511627776/\0<b.getD 0 0/\b.getD 0 0<(4294967296:Int)) (aD (dg (val a/(b.getD 0 0).toNat)) fun c=>aD (↑(val a%(b.getD 0 0).toNat):Int) fun d=>aM (0<=u64.wrap d/\u64.wrap d<18446744073709551616) (some [D.own 71 u32 c,D.own 71 u32 (dg (u64.wrap d).toNat)]))else none) (if 0<=i64.wrap (A-(1:Int))/\i64.wrap (A-(1:Int))<=A/\A<=A then none else none)))):=eJ aT
def sp(a b:List Int):Prop×List D:=(cG a/\cG b/\a.length<=274877906944/\b.length=1,[.own uD .u32 (dg (val a/val b)),.own uD .u32 (dg (val a%val b))])
theorem spec:fL E f249 aE (pI .u32) (pI .u32) sp:=by
 rintro a b ⟨ha,hb,hl,Kn⟩;refine(start a b).trans ?_;have g:=hb.jE.get 0;have hz:val b≠0:=fun h=>by have:=(cZ hb).2 h;omega
 show _=some [D.own uD .u32 (dg (val a/val b)),D.own uD .u32 (dg (val a%val b))];rw[bA,gP ⟨ha,hb,by omega,by omega⟩]
 by_cases hc:val a<val b
 ·have:jK (val a) (val b)<0:=by unfold jK;rw[if_pos hc];omega
  rw[aN this,gP,gP ⟨ha.jE,by omega⟩,cHB hc,Nat.mod_eq_of_lt hc]
 have:¬jK (val a) (val b)<0:=by unfold jK;rw[if_neg hc];split <;> omega
 have hm:=cDM (val a) (show 0<val b by omega);rw[aL this];have hv:val b=(b.getD 0 0).toNat:=by
  have:=bJ (a:=b) 0;rw[bV (by omega)]at this;simpa [val] using this
 rw[hv]at hm;rw[bI,aQ,gP ⟨ha.jE,by omega,by omega,g.2⟩,hv,aG,aG];generalize val a%(b.getD 0 0).toNat=r at *;rw[wrap_u64 (n:=(r:Int)),gP,cFB]
def aI:dJ:=orc2 (pI .u32) (pI .u32) sp
theorem ok:OK 249 aI:=(eB E aE (aA Ca.ok (aA aWO.ok (aA Norm.ok (aA wX.ok aC)))) func249).lF rfl spec
end Wu
namespace Lz
def E:=mE [(248,aRF.aI),(249,Wu.aI),(179,Mk.aI),(184,Add.aI),(185,Ca.aI),(247,Sub.aI)] 44 [] [(6,[3,4,5,6,7])] [6]
def aE:=bd f223
theorem aT:Nk E aE:=nk
def J6 a b c d e f:=lP E f223 aE 6 [dS 0 180 [dG a,aYN b],dS 1 180 [dG c,sc (slice none 0 0)],dS 2 180 [dG d,sc (slice none 0 0)],qK e,qK f]
theorem start a b c d:aF E f223 aE [D.agg [sc (bool a),ints u32 b],D.agg [sc (bool c),ints u32 d]]=letI C:=dg (val b/val d);letI B:=dg (val b%val d);letI A:=aM (bZ C/\C.length<=4398046511104) (aM (bZ B/\B.length<=4398046511104) (some [D.agg [sc (bool (isNeg (zs a (val C)))),ints u32 (dg (zs a (val C)).natAbs)],D.agg [sc (bool (isNeg (zs false (val B)))),ints u32 (dg (zs false (val B)).natAbs)]]));aM (yT (c,d)) (aB (decide (lI (zv (c,d)) 0<=(0:Int))) (some [D.agg [sc (bool false),sc (slice none 0 0)],D.agg [sc (bool false),sc (slice none 0 0)]]) (aM (cG b/\cG d/\b.length<=274877906944/\d.length=1) (aB (!a) A (aB ((B.length:Int)==(0:Int)) A (Lz.J6 c d false false C B))))):=eJ aT
theorem vE a b c d e f:J6 a b c d e f=letI B:=dg (val b-val f);letI A:=dg (val e+val (dg 1));aM ((0:Int)<=(1:Int)/\(1:Int)<(18446744073709551616:Int)) (aM (bZ e/\bZ (dg 1)/\e.length<=1099511627776/\(dg 1).length<=1099511627776) (aM (bZ A/\A.length<=4398046511104) (aM (cG b/\cG f/\b.length<=4398046511104/\f.length<=4398046511104) (aM (bZ B/\B.length<=4398046511104) (some [D.agg [sc (bool (isNeg (zs true (val A)))),ints u32 (dg (zs true (val A)).natAbs)],D.agg [sc (bool (isNeg (zs false (val B)))),ints u32 (dg (zs false (val B)).natAbs)]]))))):=cJ aT
def sp(x y:Bool×List Int):Prop×List D:=(yT x/\yT y/\y.1=false/\y.2.length=1/\x.2.length<=274877906944,[zD (zv x/zv y),zD (zv x%zv y)])
theorem aUC(v q:Nat)(hq:0<q):(-(v:Int))%(q:Int)=if v%q=0 then 0 else((q-v%q:Nat):Int):=by
 have h:=M.aGD v q hq;have hd:=cGK v q;have hm:=cDM v hq;have he:=cKH (-(v:Int)) (q:Int);rw[h]at he
 by_cases hr:v%q=0
 ·rw[if_pos hr]at *;rw[cKE,<-cHC]at he;generalize q*(v/q)=t at *;omega
 ·rw[if_neg hr]at *;rw[Int.mul_sub,cKE,<-cHC,Int.mul_one]at he;generalize q*(v/q)=t at *;generalize v%q=r at *;omega
theorem spec:fL E f223 aE Fl Fl sp:=by
 rintro x y ⟨hx,hy,hn,hl,lx'⟩;refine(start x.1 x.2 y.1 y.2).trans ((gP hy).trans ?_);have lx:=hx.len;have hz:=cZ hy.1;obtain⟨b,a⟩:=x;obtain⟨c,d⟩:=y
 try dsimp only at *
 subst hn;have bVT:zv (false,d)=(val d:Int):=rfl;have pE:0<val d:=by
  have:val d≠0:=fun h=>by have:=hz.2 h;omega
  omega
 have hc:¬lI (zv (false,d)) 0<=0:=by
  unfold lI;rw[aO,aQ];omega
 have l1:=Ev (val a) (val d);have l2:=qH (Nat.mod_le (val a) (val d));have nl:(dg (val a)).length=a.length:=vQ hx.1;rw[nl]at l1 l2;rw[aL hc,gP ⟨hx.1,hy.1,by omega,by omega⟩];show _=some [zD (zv (b,a)/zv (false,d)),zD (zv (b,a)%zv (false,d))];have zf:∀n:Nat,zs false n=(n:Int):=fun _=>rfl
 have zt:∀n:Nat,zs true n=-(n:Int):=fun _=>rfl
 rw[bVT];cases b with
 |false =>
  have bMA:zv (false,a)=(val a:Int):=rfl;rw[cMR,bT,gP ⟨gH _,by omega⟩,gP ⟨gH _,by omega⟩,bMA,<-cGU,<-Int.natCast_emod,bD,bD];rfl
 |true =>
  have bMA:zv (true,a)=-(val a:Int):=rfl;have e1:=M.aGD (val a) (val d) pE;have e2:=aUC (val a) (val d) pE;have hm:=cDM (val a) pE;rw[cDE,bF,bMA,e1,e2]
  by_cases hr:val a%val d=0
  ·rw[hr,cB,bI (show((([]:List Int).length:Nat):Int)=0 from rfl),if_pos rfl,if_pos rfl,gP ⟨gH _,by omega⟩,gP ⟨mQ,by simp⟩,bD];rfl
  ·have bMY:(dg (val a%val d)).length≠0:=fun h=>hr (gM.1 h)
   have l3:=Nr (val a/val d) 1;have l4:=Eu (val d) (val a%val d);rw[show(dg (val d)).length=d.length from vQ hy.1]at l4;rw[aQG,List.length_singleton]at l3;rw[bA,if_neg hr,if_neg hr,vE,gP ⟨by omega,by omega⟩,gP ⟨gH _,gH _,by omega,by rw[aQG];simp⟩,bD,bD,gP ⟨gH _,by omega⟩,gP ⟨hy.1,aY _,by omega,by omega⟩,bD,bD,gP ⟨gH _,by omega⟩,bD,zt,zf];rw[show -(((val a/val d+1:Nat)):Int)=-((val a/val d:Nat):Int)-1 by omega];rfl
def aI:dJ:=orc2 Fl Fl sp
theorem ok:OK 223 aI:=(eB E aE (aA aRF.ok (aA Wu.ok (aA Mk.ok (aA Add.ok (aA Ca.ok (aA Sub.ok aC)))))) func223).lF rfl spec
end Lz
namespace zS
def E:=mE [(223,Lz.aI)] 20 [] [(3,[2,3,4])] [3]
def aE:=bd f183
theorem aT:Nk E aE:=nk
def J3 a b c d e:=lP E f183 aE 3 [dS 0 180 [dG a,aYN b],dS 1 180 [dG c,aYN d],dS 2 180 [dG e,sc (slice none 0 0)]]
theorem start a b c d:aF E f183 aE [D.agg [sc (bool a),ints u32 b],D.agg [sc (bool c),ints u32 d]]=aB c none (zS.J3 a b c d false):=eJ aT
theorem iB a b c d e:J3 a b c d e=letI A:=zv (a,b)/zv (c,d);aM (yT (a,b)/\yT (c,d)/\c=false/\d.length=1/\b.length<=274877906944) (some [D.agg [sc (bool (isNeg A)),ints u32 (dg A.natAbs)]]):=cJ aT
def sp(x y:Bool×List Int):Prop×List D:=(yT x/\yT y/\y.1=false/\y.2.length=1/\x.2.length<=274877906944,[zD (zv x/zv y)])
theorem spec:fL E f183 aE Fl Fl sp:=by
 rintro x y ⟨hx,hy,hn,hl⟩;refine(start x.1 x.2 y.1 y.2).trans ?_;obtain⟨b,q⟩:=y
 try dsimp only at *
 subst hn;rw[bF,iB,gP ⟨hx,hy,rfl,hl⟩];rfl
def aI:dJ:=orc2 Fl Fl sp
theorem ok:OK 183 aI:=(eB E aE (aA Lz.ok aC) func183).lF rfl spec
end zS
namespace aRG
def E:=mE [(181,bCH.aI),(182,bCI.aI),(183,zS.aI)] 12 [] [] []
def aE:=bd f131
theorem aT:Nk E aE:=nk
theorem start a b c d:aF E f131 aE [D.agg [sc (bool a),ints u32 b],D.agg [sc (bool c),ints u32 d]]=letI F:=zv (a,b)/zv (c,d);letI B:=(isNeg F,dg F.natAbs);letI A:=zv (c,d)*zv B;letI C:=(isNeg A,dg A.natAbs);aM (yT (a,b)/\yT (c,d)/\c=false/\d.length=1/\b.length<=274877906944) (aM (yT (c,d)/\yT B) (aM (yT (a,b)/\yT C) (some [D.agg [sc (bool (isNeg (zv (a,b)-zv C))),ints u32 (dg (zv (a,b)-zv C).natAbs)]]))):=eJ aT
def sp(x y:Bool×List Int):Prop×List D:=(yT x/\x.2.length<=268435456/\yT y/\y.1=false/\y.2.length=1,[zD (zv x%zv y)])
theorem spec:fL E f131 aE Fl Fl sp:=by
 rintro x y ⟨hx,lx,hy,hn,hl⟩;refine(start x.1 x.2 y.1 y.2).trans ((gP ⟨hx,hy,hn,hl,by omega⟩).trans ?_);have hz:=cZ hy.1;have bx:=aRA hx.1.jE lx;have cAT:=aRA (n:=1) hy.1.jE (by omega);have ax:=Tr x;have ay:=Tr y;obtain⟨a,p⟩:=x;obtain⟨b,q⟩:=y
 try dsimp only at *
 subst hn;have hp:zv (false,q)=(val q:Int):=rfl;have pE:0<zv (false,q):=by
  have:val q≠0:=fun h=>by have:=hz.2 h;omega
  omega
 have hq:bl (zv (a,p)/zv (false,q)).natAbs<=8589934592:=Nat.le_trans (gF (by rw[hp];exact tJ (by omega))) (by rw[ax];omega);have hm:bl (zv (false,q)*(zv (a,p)/zv (false,q))).natAbs<=8589934700:=by
  rw[Int.natAbs_mul];refine Nat.le_trans (Ja _ _) ?_;rw[ay];omega
 rw[gP ⟨hy,aBM hq (by omega)⟩,Rs,gP ⟨hx,aBM hm (by omega)⟩,Rs];have:zv (a,p)-zv (false,q)*(zv (a,p)/zv (false,q))=zv (a,p)%zv (false,q):=by
  have:=cKH (zv (a,p)) (zv (false,q));omega
 rw[this];rfl
def aI:dJ:=orc2 Fl Fl sp
theorem ok:OK 131 aI:=(eB E aE (aA bCH.ok (aA bCI.ok (aA zS.ok aC))) func131).lF rfl spec
end aRG
namespace bQB
def E:=mE [(179,Mk.aI),(184,Add.aI),(185,Ca.aI)] 17 [] [] []
def aE:=bd f132
theorem aT:Nk E aE:=nk
theorem start a:aF E f132 aE [D.s (sc (int i64 a))]=letI F:=dg (u64.wrap a).toNat;letI B:=i64.wrap ((0:Int)-i64.wrap (a+1));letI A:=dg (u64.wrap B).toNat;letI C:=dg (val A+val (dg 1));aB (decide (a<0)) (aM (0<=u64.wrap B/\u64.wrap B<18446744073709551616) (aM ((0:Int)<=(1:Int)/\(1:Int)<(18446744073709551616:Int)) (aM (bZ A/\bZ (dg 1)/\A.length<=1099511627776/\(dg 1).length<=1099511627776) (aM (bZ C/\C.length<=4398046511104) (some [D.agg [sc (bool (isNeg (zs true (val C)))),ints u32 (dg (zs true (val C)).natAbs)]]))))) (aM (0<=u64.wrap a/\u64.wrap a<18446744073709551616) (aM (bZ F/\F.length<=4398046511104) (some [D.agg [sc (bool (isNeg (zs false (val F)))),ints u32 (dg (zs false (val F)).natAbs)]]))):=eJ aT
def sp(a:Int):Prop×List D:=(-9223372036854775808<=a/\a<9223372036854775808,[zD a])
theorem aGF{n:Nat}(h:n<18446744073709551616):(dg n).length<=2:=dP (by simpa using h)
theorem spec:iU E f132 aE (pN .i64) sp:=by
 rintro a ⟨h1,h2⟩;refine(start a).trans ?_;show _=some [zD a];simp only[bD]
 by_cases hn:a<0
 ·have e:u64.wrap (i64.wrap (0-i64.wrap (a+1)))=-(a+1):=by
   rw[wrap_i64 (n:=a+1),wrap_i64,wrap_u64];omega
  have l1:=aGF (n:=(-(a+1)).toNat) (by omega);have l2:=aGF (n:=(-(a+1)).toNat+1) (by omega);have l3:=aGF (n:=1) (by omega);rw[aN hn,e,gP ⟨by omega,by omega⟩,gP ⟨by omega,by omega⟩,gP ⟨gH _,gH _,by omega,by omega⟩,gP ⟨gH _,by omega⟩];have ez:zs true ((-(a+1)).toNat+1)=a:=by unfold zs;simp only[cond_true];omega
  rw[ez];rfl
 ·have l1:=aGF (n:=a.toNat) (by omega);rw[aL hn,wrap_u64,gP ⟨by omega,by omega⟩,gP ⟨gH _,by omega⟩];have ez:zs false a.toNat=a:=by unfold zs;simp only[cond_false];omega
  rw[ez];rfl
def aI:dJ:=orc1 (pN .i64) sp
theorem ok:OK 132 aI:=(eB E aE (aA Mk.ok (aA Add.ok (aA Ca.ok aC))) func132).oS rfl spec
end bQB
namespace aKD
def E:=mE [(186,Fits.aI)] 33 [] [] []
def aE:=bd f133
theorem aT:Nk E aE:=nk
theorem start a b:aF E f133 aE [D.agg [sc (bool a),ints u32 b]]=letI F:=sc (bool true);letI C:=some [D.s (sc (int i64 0)),D.s (sc (bool false))];letI B:=(↑(if val b<18446744073709551616 then val b else(0:Nat)):Int);letI A:=aB (decide (9223372036854775808<=B)) C (aB a (some [D.s (sc (int i64 (i64.wrap ((0:Int)-i64.wrap B)))),D.s F]) (some [D.s (sc (int i64 (i64.wrap B))),D.s F]));aM (bZ b/\b.length<=1099511627776) (aB (!decide (val b<18446744073709551616)) C (aB a (aB (B==(9223372036854775808:Int)) (some [D.s (sc (int i64 (-9223372036854775808:Int))),D.s F]) A) A)):=eJ aT
def aSK(z:Int):Bool:=decide (-9223372036854775808<=z)&&decide (z<9223372036854775808)
def sp(x:Bool×List Int):Prop×List D:=(yT x,[.s (.sc (.int .i64 (bif aSK (zv x)then zv x else 0))),.s (.sc (.bool (aSK (zv x))))])
theorem spec:iU E f133 aE Fl sp:=by
 intro x h;have h:yT x:=h;have l:=h.len;refine(start x.1 x.2).trans ((gP ⟨h.1.jE,by omega⟩).trans ?_);have yes:∀z:Int,-9223372036854775808<=z->z<9223372036854775808->aSK z=true:=fun z h h'=>by unfold aSK;rw[decide_eq_true h,decide_eq_true h'];rfl
 have no:∀z:Int,(z < -9223372036854775808\/9223372036854775808<=z)->aSK z=false:=fun z h=>by
  unfold aSK;rcases h with h |h
  ·rw[decide_eq_false (by omega),Bool.false_and]
  ·rw[decide_eq_false (show ¬z<_ by omega),Bool.and_false]
 unfold sp
 try dsimp only
 obtain⟨b,a⟩:=x
 try dsimp only at *
 by_cases h1:val a<18446744073709551616
 ·rw[decide_eq_true h1,if_pos h1,cDE,bF];cases b with
  |true =>
   have hz:zv (true,a)=-(val a:Int):=rfl;rw[bT,bT]
   by_cases h2:(val a:Int)=9223372036854775808
   ·rw[bI h2,yes _ (by omega) (by omega),hz,h2];rfl
   ·rw[bA h2]
    by_cases h3:(9223372036854775808:Int)<=val a
    ·rw[aN h3,no _ (by omega)];rfl
    ·rw[aL h3,wrap_i64 (n:=(val a:Int)),wrap_i64 (n:=0-(val a:Int)),yes _ (by omega) (by omega),hz,Int.zero_sub];rfl
  |false =>
   have hz:zv (false,a)=(val a:Int):=rfl;rw[bF,bF]
   by_cases h3:(9223372036854775808:Int)<=val a
   ·rw[aN h3,no _ (by omega)];rfl
   ·rw[aL h3,wrap_i64 (n:=(val a:Int)),yes _ (by omega) (by omega),hz];rfl
 ·rw[decide_eq_false h1,cMR,bT];have:aSK (zv (b,a))=false:=by
   refine no _ ?_;have:=Tr (b,a)
   try dsimp only at this
   omega
  rw[this];rfl
def aI:dJ:=orc1 Fl sp
theorem ok:OK 133 aI:=(eB E aE (aA Fits.ok aC) func133).oS rfl spec
end aKD
namespace Pr
def E:=mE [] 13 [] [] []
def aE:=bd f134
theorem aT:Nk E aE:=nk
theorem start a d e f g h b c:aF E f134 aE [D.agg [sc (int u64 a),sc (int i64 d),sc (int i64 e),sc (int i64 f),sc (int u64 g),sc (int u64 h)],D.s (sc (bool b)),D.s (sc (int u64 c))]=aB b (some [D.s (sc (int u64 (u64.wrap (a+c))))]) (some [D.s (sc (int u64 c))]):=eJ aT
def sp(k:Int×Int×Int×Int×Int×Int)(n:Bool)(s:Int):Prop×List D:=(yU k/\0<=s/\s<k.1,[.s (.sc (.int .u64 (bif n then k.1+s else s)))])
theorem spec:oO E f134 aE (pG (.pair (sN .u64) (.pair (sN .i64) (.pair (sN .i64) (.pair (sN .i64) (.pair (sN .u64) (sN .u64))))))) pB (pN .u64) sp:=by
 rintro k n s ⟨hk,h0,h1⟩;refine(start k.1 k.2.1 k.2.2.1 k.2.2.2.1 k.2.2.2.2.1 k.2.2.2.2.2 n s).trans ?_;cases n with
 |false=>rfl
 |true =>
  have:k.1<=9223372036854775808:=by rcases hk with rfl |rfl <;> decide
  rw[bT,wrap_u64];rfl
def aI:dJ:=orc3 (pG (.pair (sN .u64) (.pair (sN .i64) (.pair (sN .i64) (.pair (sN .i64) (.pair (sN .u64) (sN .u64))))))) pB (pN .u64) sp
theorem ok:OK 134 aI:=(eB E aE aC func134).xX rfl spec
end Pr
namespace iC
def E:=mE [(30,wG.aI),(128,aSB.aI),(129,tY.aI),(130,Hg.aI),(131,aRG.aI),(132,bQB.aI),(133,aKD.aI),(134,Pr.aI)] 143 [48,81,94,103,115,130,142] [(6,[1,2,8,10,11,36]),(11,[1,2,8,10]),(16,[1,8,10,13,17,72]),(18,[1,8,10,13,17,82]),(22,[1,8,13,17,104]),(24,[1,8,13,17,116]),(28,[8,17,131]),(29,[])] [6,11,16,18,22,24,28,29]
def aE:=bd f76
theorem aT:Nk E aE:=nk
def J6 a b c d e f g h i j k:=lP E f76 aE 6 [bN a,dO b,dS 2 67 [rN c,cP d,cP e,cP f,rN g,rN h],rY i,dO j,rY k]
def aBK a b c d e f g h i:=lP E f76 aE 11 [bN a,dO b,dS 2 67 [rN c,cP d,cP e,cP f,rN g,rN h],rY i]
def aEG a b c d e f g h i j k:=lP E f76 aE 16 [bN a,dS 1 67 [rN b,cP c,cP d,cP e,rN f,rN g],rY h,bN i,rY j,rY k]
def bCU a b c d e f g h i j k:=lP E f76 aE 18 [bN a,dS 1 67 [rN b,cP c,cP d,cP e,rN f,rN g],rY h,bN i,rY j,rY k]
def bQM a b c d e f g h i j:=lP E f76 aE 22 [bN a,dS 1 67 [rN b,cP c,cP d,cP e,rN f,rN g],bN h,rY i,rY j]
def bQL a b c d e f g h i j:=lP E f76 aE 24 [bN a,dS 1 67 [rN b,cP c,cP d,cP e,rN f,rN g],bN h,rY i,rY j]
def aWL a b c d e f g h:=lP E f76 aE 28 [dS 0 67 [rN a,cP b,cP c,cP d,rN e,rN f],rY g,rY h]
def bTW:=lP E f76 aE 29 []
theorem start a b c:aF E f76 aE [D.s (sc (int i64 a)),D.s (sc (int i64 b)),D.s (sc (int u64 c))]=letI A:=wG.fQ a;aM True (aM (yU (wG.fS a,wG.fP a,wG.fE a,wG.fG a,wG.fI a,wG.fQ a)/\0<=c) (aD (decide (wG.fS a<=c)) fun d=>aD (c%wG.fS a) fun e=>aB (decide (wG.fI a<=e)) (some [D.s (sc (int u64 A)),D.s (sc (bool true))]) (aB (e==0) (aB (b==2) (iC.J6 b c (wG.fS a) (wG.fP a) (wG.fE a) (wG.fG a) (wG.fI a) A d e true) (iC.J6 b c (wG.fS a) (wG.fP a) (wG.fE a) (wG.fG a) (wG.fI a) A d e (b==5))) (iC.J6 b c (wG.fS a) (wG.fP a) (wG.fE a) (wG.fG a) (wG.fI a) A d e false)))):=eJ aT
theorem vE a b c d e f g h i j k:J6 a b c d e f g h i j k=aB k (aM (yU (c,d,e,f,g,h)) (aD (tY.one (c,d,e,f,g,h)) fun l=>some [D.s (sc (int u64 l)),D.s (sc (bool true))])) (aB (j==0) (some [D.s (sc (int u64 b)),D.s (sc (bool true))]) (aB (decide (a<=3)) (some [D.s (sc (int u64 0)),D.s (sc (bool false))]) (iC.aBK a b c d e f g h i))):=cJ aT
theorem Fj a b c d e f g h i:aBK a b c d e f g h i=letI C:=(c,d,e,f,g,h);letI A:=Hg.bJF C b;aM (yU C/\(0<=b/\b<18446744073709551616)/\b%c<kI C/\b%c≠0) (aD (isNeg A.fst) fun j=>aD (dg A.fst.natAbs) fun k=>letI B:=zv (j,k)%zv (isNeg 4,dg 4);aD A.snd fun l=>aM ((-9223372036854775808:Int)<=(4:Int)/\(4:Int)<(9223372036854775808:Int)) (aM (yT (j,k)/\k.length<=268435456/\yT (isNeg 4,dg 4)/\isNeg 4=false/\(dg 4).length=1) (aD (isNeg B) fun m=>aD (dg B.natAbs) fun n=>aM (yT (m,n)) (aD (bif aKD.aSK (zv (m,n))then zv (m,n)else(0:Int)) fun o=>aB (decide (0<=l)) (iC.aEG a c d e f g h i l (o==3) (a==4)) (iC.aEG a c d e f g h i l (o==3) false))))):=cJ aT
theorem Cs a b c d e f g h i j k:aEG a b c d e f g h i j k=aB k (aM (yU (b,c,d,e,f,g)/\(0:Int)<=(0:Int)/\0<b) (aD (bif h then b+0 else(0:Int)) fun l=>some [D.s (sc (int u64 l)),D.s (sc (bool true))])) (aB (decide (0<=i)) (iC.bCU a b c d e f g h i j (a==5)) (iC.bCU a b c d e f g h i j false)):=cJ aT
theorem Qa a b c d e f g h i j k:bCU a b c d e f g h i j k=letI A:=(b,c,d,e,f,g);aB k (aM (yU A) (aD (tY.one A) fun l=>aM (yU A/\0<=l/\l<b) (aD (bif i==0 then b+l else l) fun m=>some [D.s (sc (int u64 m)),D.s (sc (bool true))]))) (aB (decide (0<=i)) (aM (yU A/\(0:Int)<=(0:Int)/\0<b) (aD (bif h !=(i==0)then b+0 else(0:Int)) fun n=>some [D.s (sc (int u64 n)),D.s (sc (bool true))])) (aB (i==(-1:Int)) (iC.bQM a b c d e f g i j (a==4)) (iC.bQM a b c d e f g i j false))):=cJ aT
theorem Wr a b c d e f g h i j:bQM a b c d e f g h i j=letI A:=(b,c,d,e,f,g);aB j (aM (yU A) (aD (tY.one A) fun k=>aM (yU A/\0<=k/\k<b) (aD (bif i then b+k else k) fun l=>some [D.s (sc (int u64 l)),D.s (sc (bool true))]))) (aB (h==(-1:Int)) (iC.bQL a b c d e f g h i (a==5)) (iC.bQL a b c d e f g h i false)):=cJ aT
theorem aEF a b c d e f g h i j:bQL a b c d e f g h i j=aB j (some [D.s (sc (int u64 0)),D.s (sc (bool true))]) (aB (h==(-1:Int)) (aM (yU (b,c,d,e,f,g)/\0<=f/\f<b) (aD (bif i then b+f else f) fun k=>some [D.s (sc (int u64 k)),D.s (sc (bool true))])) (aB (h==(-2:Int)) (iC.aWL b c d e f g i (a==6)) (iC.aWL b c d e f g i false))):=cJ aT
theorem Jm a b c d e f g h:aWL a b c d e f g h=letI A:=(a,b,c,d,e,f);aB h (aM (yU A) (aD (tY.one A) fun i=>aM (yU A/\0<=i/\i<a) (aD (bif g then a+i else i) fun j=>some [D.s (sc (int u64 j)),D.s (sc (bool true))]))) iC.bTW:=cJ aT
theorem aEE:bTW=some [D.s (sc (int u64 0)),D.s (sc (bool false))]:=cJ aT
open W.aAR W.aAS
def Xw(k:K6)(b:Bool)(c:Int):Int:=bif b then k.1+c else c
def bIB(k:K6)(fn:Int)(neg:Bool)(e:Int)(m3:Bool):Int×Bool :=
 if 0<=e then(if fn=4 then Xw k neg 0 else if fn=5 then Xw k (e==0) (tY.one k)else Xw k (neg !=(e==0)) 0,true)
 else if e=-1 then(if fn=4 then Xw k m3 (tY.one k)else if fn=5 then 0 else Xw k m3 (kI k),true)
 else if e=-2 then(if fn=6 then(Xw k m3 (tY.one k),true)else(0,false))else(0,false)
theorem j16{k:K6}(hk:yU k){fn:Int}(h4:fn=4\/fn=5\/fn=6)(neg:Bool)(e:Int)(m3:Bool) :
  aB (decide (0<=e)) (aEG fn k.1 k.2.1 k.2.2.1 k.2.2.2.1 k.2.2.2.2.1 k.2.2.2.2.2 neg e m3 (fn==4)) (aEG fn k.1 k.2.1 k.2.2.1 k.2.2.2.1 k.2.2.2.2.1 k.2.2.2.2.2 neg e m3 false)=some [.s (.sc (.int .u64 (bIB k fn neg e m3).1)),.s (.sc (.bool (bIB k fn neg e m3).2))]:=by
 have p0:yU k/\(0:Int)<=0/\0<k.1:=⟨hk,by omega,by rcases hk with rfl |rfl <;> decide⟩;have p1:yU k/\0<=tY.one k/\tY.one k<k.1:=⟨hk,by rcases hk with rfl |rfl <;> decide,by rcases hk with rfl |rfl <;> decide⟩;have p2:yU k/\0<=k.2.2.2.2.1/\k.2.2.2.2.1<k.1:=⟨hk,by rcases hk with rfl |rfl <;> decide,by rcases hk with rfl |rfl <;> decide⟩;have n44:((4:Int)==4)=true:=rfl;have bQZ:((5:Int)==4)=false:=rfl;have bQY:((5:Int)==5)=true:=rfl;have bQX:((6:Int)==4)=false:=rfl;have bQW:((6:Int)==5)=false:=rfl;have bVH:((6:Int)==6)=true:=rfl;have n45:((4:Int)==5)=false:=rfl;have n46:((4:Int)==6)=false:=rfl;have bVI:((5:Int)==6)=false:=rfl;unfold bIB
 by_cases c0:0<=e
 ·rw[aN c0,if_pos c0];rcases h4 with rfl |rfl |rfl
  ·rw[Cs,n44,bT,gP p0];rfl
  ·rw[Cs,bQZ,bF,aN c0,Qa,bQY,bT,gP hk,aG,gP p1];rfl
  ·rw[Cs,bQX,bF,aN c0,Qa,bQW,bF,aN c0,gP p0];rfl
 ·rw[aL c0,if_neg c0,Cs,bF,aL c0,Qa,bF,aL c0]
  by_cases c1:e=-1
  ·rw[bI c1,if_pos c1];rcases h4 with rfl |rfl |rfl
   ·rw[Wr,n44,bT,gP hk,aG,gP p1];rfl
   ·rw[Wr,bQZ,bF,bI c1,aEF,bQY,bT];rfl
   ·rw[Wr,bQX,bF,bI c1,aEF,bQW,bF,bI c1,gP p2];rfl
  ·rw[bA c1,if_neg c1,Wr,bF,bA c1,aEF,bF,bA c1]
   by_cases c2:e=-2
   ·rw[bI c2,if_pos c2];rcases h4 with rfl |rfl |rfl
    ·rw[Jm,n46,bF,aEE];rfl
    ·rw[Jm,bVI,bF,aEE];rfl
    ·rw[Jm,bVH,bT,gP hk,aG,gP p1];rfl
   ·rw[bA c2,if_neg c2,Jm,bF,aEE]
theorem bBK{f fn b:Int}(hf:f=32\/f=64)(h4:fn=4\/fn=5\/fn=6){neg:Bool}(hn:isNeg (bQ.iK f b).1=neg) :
  bIB (kf (f==64)) fn neg (bQ.iK f b).2 ((bQ.iK f b).1%4==3)=if(fC.An fn (bQ.iK f b)).2.2=true then(mV.Kj f (fC.An fn (bQ.iK f b)).1 (fC.An fn (bQ.iK f b)).2.1,true)else(0,false):=by
 have sg:∀(c:Bool) (s v:Int),(s=0/\v=0\/s=1/\v=tY.one (kf (f==64))\/s=2/\v=kI (kf (f==64)))->Xw (kf (f==64)) c v=mV.Kj f s c:=by
  intro c s v h;unfold Xw mV.Kj iD.Xv;rcases hf with rfl |rfl <;> rcases h with ⟨rfl,rfl⟩ |⟨rfl,rfl⟩ |⟨rfl,rfl⟩ <;> cases c <;> decide
 unfold bIB fC.An;generalize bQ.iK f b=q at *;obtain⟨m,e⟩:=q;dsimp only at *;rw[hn]
 by_cases c0:0<=e
 ·rcases h4 with rfl |rfl |rfl
  ·simp only[if_pos c0,if_true];rw[sg _ 0 _ (.inl ⟨rfl,rfl⟩)]
  ·simp only[if_pos c0,if_true,show ¬(5:Int)=4 by decide,if_false];rw[sg _ 1 _ (.inr (.inl ⟨rfl,rfl⟩))]
  ·simp only[if_pos c0,if_true,show ¬(6:Int)=4 by decide,show ¬(6:Int)=5 by decide,if_false];rw[sg _ 0 _ (.inl ⟨rfl,rfl⟩)]
 ·by_cases c1:e=-1
  ·rcases h4 with rfl |rfl |rfl
   ·simp only[if_neg c0,if_pos c1,if_true];rw[sg _ 1 _ (.inr (.inl ⟨rfl,rfl⟩))]
   ·simp only[if_neg c0,if_pos c1,if_true,show ¬(5:Int)=4 by decide,if_false];rw[<-sg false 0 0 (.inl ⟨rfl,rfl⟩)];rfl
   ·simp only[if_neg c0,if_pos c1,if_true,show ¬(6:Int)=4 by decide,show ¬(6:Int)=5 by decide,if_false];rw[sg _ 2 _ (.inr (.inr ⟨rfl,rfl⟩))]
  ·by_cases c2:e=-2
   ·rcases h4 with rfl |rfl |rfl
    ·simp only[if_neg c0,if_neg c1,if_pos c2,if_true,show ¬(4:Int)=6 by decide,if_false,cEI]
    ·simp only[if_neg c0,if_neg c1,if_pos c2,if_true,show ¬(5:Int)=4 by decide,show ¬(5:Int)=6 by decide,if_false,cEI]
    ·simp only[if_neg c0,if_neg c1,if_pos c2,if_true,show ¬(6:Int)=4 by decide,show ¬(6:Int)=5 by decide,if_false];rw[sg _ 1 _ (.inr (.inl ⟨rfl,rfl⟩))]
   ·rcases h4 with rfl |rfl |rfl
    ·simp only[if_neg c0,if_neg c1,if_neg c2,if_true,if_false,cEI]
    ·simp only[if_neg c0,if_neg c1,if_neg c2,if_true,show ¬(5:Int)=4 by decide,if_false,cEI]
    ·simp only[if_neg c0,if_neg c1,if_neg c2,if_true,show ¬(6:Int)=4 by decide,show ¬(6:Int)=5 by decide,if_false,cEI]
def Kg(f fn b:Int):Int×Bool:=lW.Mp f fn b (jW.xT f b)
def sp(f fn b:Int):Prop×List D:=((0<=b/\b<18446744073709551616)/\gA.qB f fn b=0,[.s (.sc (.int .u64 (Kg f fn b).1)),.s (.sc (.bool (Kg f fn b).2))])
theorem spec:oO E f76 aE (pN .i64) (pN .i64) (pN .u64) sp:=by
 rintro f fn b ⟨hb,he⟩;obtain⟨hf,hp,f1,f6⟩:=Ziv.Vk he;obtain⟨aCZ,hc⟩:=Ziv.Vt hf hb hp;obtain⟨e1,e2⟩:=Mv hf;obtain⟨k1,k2,hk,k4⟩:=aXL hf;have s0:=cKI b (show sg f≠0 by unfold sg;split <;> omega);have hi:=(aAR.Uv hf).2.1;have hi0:=(aAR.Uv hf).1;rw[e2]at hi;have eI:wG.fI f=kJ.oD (Ch.Eb f):=by rcases hf with rfl |rfl <;> rfl
 have eS:wG.fS f=sg f:=by rcases hf with rfl |rfl <;> rfl
 have eQ:wG.fQ f=(aH.fD f).2.2.2:=by rcases hf with rfl |rfl <;> rfl
 obtain⟨g1,g2,g3,g4,g5,g6⟩:wG.fS f=(kf (f==64)).1/\wG.fP f=(kf (f==64)).2.1/\wG.fE f=(kf (f==64)).2.2.1/\wG.fG f=(kf (f==64)).2.2.2.1/\wG.fI f=(kf (f==64)).2.2.2.2.1/\wG.fQ f=(kf (f==64)).2.2.2.2.2:=by rcases hf with rfl |rfl <;> exact⟨rfl,rfl,rfl,rfl,rfl,rfl⟩
 have gS:(kf (f==64)).1=sg f:=by rcases hf with rfl |rfl <;> rfl
 have gI:(kf (f==64)).2.2.2.2.1=kJ.oD (Ch.Eb f):=by rcases hf with rfl |rfl <;> rfl
 have gQ:(kf (f==64)).2.2.2.2.2=(aH.fD f).2.2.2:=by rcases hf with rfl |rfl <;> rfl
 refine(start f fn b).trans ?_;rw[g1,g2,g3,g4,g5,g6,gP trivial];show aM (yU (kf (f==64))/\0<=b) _=_;rw[gP ⟨hk,hb.1⟩,aG,aG];unfold sp Kg lW.Mp;dsimp only;generalize jW.xT f b=cl at hc ⊢
 by_cases ci:kJ.oD (Ch.Eb f)<=b%sg f
 ·rw[aN (by rw[gI,gS];exact ci),gQ];rw[aO,aO,aO]at hc
  by_cases c3:b%sg f=kJ.oD (Ch.Eb f)
  ·rw[if_pos c3]at hc;rw[aO,if_pos hc]
  ·rw[if_neg c3]at hc;rw[if_pos hc]
 ·rw[aL (by rw[gI,gS];exact ci)];have j11:b%sg f≠0->4<=fn->aBK fn b (kf (f==64)).1 (kf (f==64)).2.1 (kf (f==64)).2.2.1 (kf (f==64)).2.2.2.1 (kf (f==64)).2.2.2.2.1 (kf (f==64)).2.2.2.2.2 (decide ((kf (f==64)).1<=b))=some [.s (.sc (.int .u64 (bQ.sU f fn b).1)),.s (.sc (.bool (bQ.sU f fn b).2.1))]:=by
   intro c0 c4;have h4:fn=4\/fn=5\/fn=6:=by omega
   have eK:(kf (f==64)).1=sg f:=by rw[k4,e1]
   have cAH:kI (kf (f==64))=kJ.oD (Ch.Eb f):=by rcases hf with rfl |rfl <;> rfl
   have ex:=aDF hf ⟨c4,f6⟩ hp (by rw[e1];omega) (by rw[e1,e2];omega);have hn:=aZP hf hb.1;rw[Fj];show aM (yU (kf (f==64))/\_) _=_;rw[gP ⟨hk,hb,by rw[eK];show b%sg f<kI (kf (f==64));rw[cAH];omega,by rw[eK];exact c0⟩];show aD (isNeg (aR (zs (decide ((kf (f==64)).1<=b)) (nU (kf (f==64)) (b%(kf (f==64)).1).toNat)) (kE (kf (f==64)))).1) (fun y4=>aD (dg (aR (zs (decide ((kf (f==64)).1<=b)) (nU (kf (f==64)) (b%(kf (f==64)).1).toNat)) (kE (kf (f==64)))).1.natAbs) fun y5=>aD (aR (zs (decide ((kf (f==64)).1<=b)) (nU (kf (f==64)) (b%(kf (f==64)).1).toNat)) (kE (kf (f==64)))).2 _)=_;rw[hn];have aIX:isNeg (bQ.iK f b).1=decide ((kf (f==64)).1<=b):=by
    rw[gS];have hn:=Ul ⟨hf,⟨hb.1,aCZ⟩,by omega,by omega⟩
    by_cases c:sg f<=b
    ·rw[decide_eq_true c];exact lT.2 (hn.2 c)
    ·rw[decide_eq_false c];exact iH.2 (by have:=mt hn.1 c;omega)
   have Qn:bl (bQ.iK f b).1.natAbs<=64:=by
    obtain⟨_,hm,_⟩:=bQ.Nj hf hb.1 (decide_eq_true (by rw[e1,e2];omega));have:=Ge (aZ.kA f b) (aZ.lG f b);exact dK.2 (cHT this (Nat.lt_trans hm (by decide)))
   have hx:=bBK hf h4 aIX;rw[ex];obtain⟨o1,o2,o3⟩:=aTY (z:=4) (by decide) (by decide);have e4:zv (isNeg 4,dg 4)=4:=Rs 4;generalize bQ.iK f b=q at *;have hr:0<=q.1%4/\q.1%4<4:=by omega
   have Zc:aKD.aSK (q.1%4)=true:=by unfold aKD.aSK;rw[decide_eq_true (by omega),decide_eq_true (by omega)];rfl
   rw[aYL,aG,gP ⟨by omega,by omega⟩,gP ⟨aBM (k:=64) Qn (by omega),by have:=Bk Qn;omega,o1,o2,o3⟩,Rs,e4,aYL,gP (Ry (by omega)).1,Rs,Zc,cond_true,aG];refine(j16 hk h4 _ _ _).trans ?_;rw[hx];split <;> rfl
  by_cases c0:b%sg f=0
  ·rw[if_pos c0]at hc;subst hc;rw[bI (by rw[gS];exact c0),if_neg (by decide),if_neg (by decide)];have o2:iD.Qq (aH.fD f) false (iD.uY (aH.fD f) 1 0)=tY.one (kf (f==64)):=by rcases hf with rfl |rfl <;> decide +kernel
   have o5:mV.Kj f 1 false=tY.one (kf (f==64)):=by rcases hf with rfl |rfl <;> decide
   by_cases c2:fn=2
   ·subst c2;rw[bI rfl,vE,bT];show aM (yU (kf (f==64))) (aD (tY.one (kf (f==64))) _)=_;rw[gP hk,aG,if_neg (by decide),if_pos rfl,if_pos rfl,o2]
   ·rw[bA c2]
    by_cases c5:fn=5
    ·subst c5;rw[show((5:Int)==5)=true from rfl,vE,bT];show aM (yU (kf (f==64))) (aD (tY.one (kf (f==64))) _)=_;rw[gP hk,aG,if_pos (by decide),Vj hf ⟨by decide,by decide⟩ hp (by rw[e1];exact c0),if_pos rfl,o5]
    ·rw[beq_eq_false_iff_ne.2 c5,vE,bF,bI (by rw[gS];exact c0)]
     by_cases c4:4<=fn
     ·rw[if_pos c4,Vj hf ⟨c4,f6⟩ hp (by rw[e1];exact c0),if_neg c5]
     ·rw[if_neg c4,if_pos rfl,if_neg c2]
  ·rw[if_neg c0]at hc;have aJF:cl=1\/cl=2:=by
    split at hc
    ·exact .inl hc
    ·first |exact .inr hc | (rw[aQ]at hc;exact .inr hc)
   rw[bA (by rw[gS];exact c0),vE,bF,bA (by rw[gS];exact c0),aO,aO]
   by_cases c4:4<=fn
   ·rw[aL,if_pos c4];exact j11 c0 c4
   ·rw[aN,if_neg c4,aO]
def aI:dJ:=orc3 (pN .i64) (pN .i64) (pN .u64) sp
theorem ok:OK 76 aI:=(eB E aE (aA wG.ok (aA aSB.ok (aA tY.ok (aA Hg.ok (aA aRG.ok (aA bQB.ok (aA aKD.ok (aA Pr.ok aC)))))))) func76).xX rfl spec
end iC
namespace yP
def E:=mE [(33,Hk.aI),(76,iC.aI)] 23 [] [] []
def aE:=bd f29
theorem aT:Nk E aE:=nk
theorem start a b c:aF E f29 aE [D.s (sc (int i64 a)),D.s (sc (int i64 b)),D.s (sc (int u64 c))]=aM (0<=c/\c<18446744073709551616) (aB (Hk.bEC a b c !=0) (some [D.s (sc (bool false))]) (aM ((0<=c/\c<18446744073709551616)/\gA.qB a b c=0) (some [D.s (sc (bool !(iC.Kg a b c).snd))]))):=eJ aT
def jD(f fn b:Int):Bool:=decide (gA.qB f fn b=0)&&!(iC.Kg f fn b).2
theorem bBY(f fn b:Int):Hk.bEC f fn b=gA.qB f fn b:=rfl
def sp(f fn b:Int):Prop×List D:=(0<=b/\b<18446744073709551616,[.s (.sc (.bool (jD f fn b)))])
theorem spec:oO E f29 aE (pN .i64) (pN .i64) (pN .u64) sp:=by
 intro f fn b h;have hb:0<=b/\b<18446744073709551616:=h;refine(start f fn b).trans ((gP hb).trans ?_);unfold sp jD;rw[bBY]
 by_cases he:gA.qB f fn b=0
 ·rw[gD he,gP ⟨hb,he⟩,decide_eq_true he];rfl
 ·rw[nW he,decide_eq_false he];rfl
def aI:dJ:=orc3 (pN .i64) (pN .i64) (pN .u64) sp
theorem ok:OK 29 aI:=(eB E aE (aA Hk.ok (aA iC.ok aC)) func29).xX rfl spec
end yP
namespace LawZNarrows
def E:=mE [(24,Mc.aI),(29,yP.aI),(31,dC.aI),(26,kO.aI),(32,jQ.aI)] 97 [] [(11,[8,9,11,12]),(13,[8,11])] [11,13]
def aE:=bd f7
theorem aT:Nk E aE:=nk
def aBK a b c d:=lP E f7 aE 11 [dO a,rY b,dO c,rY d]
def Qc a b:=lP E f7 aE 13 [dO a,dO b]
theorem start a b:aF E f7 aE [D.s (sc (int i64 a)),D.s (sc (int u32 b))]=letI B:=some [D.s (sc (bool false))];letI A:=u64.wrap b;letI F:=kO.Bz 32 a A;letI C:=kO.Bz 64 a (dC.vG A);aM True (aM (0<=u64.wrap b/\u64.wrap b<18446744073709551616) (aD (yP.jD 32 a A) fun c=>aB (!c) (some [D.s (sc (bool true))]) (aM (0<=u64.wrap b/\u64.wrap b<18446744073709551616) (aM (0<=dC.vG A/\dC.vG A<18446744073709551616) (aD C.fst fun d=>aD C.snd.fst fun e=>aD (gA.qB 64 a (dC.vG A)) fun f=>aM (0<=u64.wrap b/\u64.wrap b<18446744073709551616) (aD F.fst fun g=>aD F.snd.fst fun h=>aD (gA.qB 32 a A) fun i=>aB (dC.aHW A !=0) B (aB (f !=0) B (aB (i !=0) B (LawZNarrows.aBK d e g h))))))))):=eJ aT
theorem Fj a b c d:aBK a b c d=letI A:=some [D.s (sc (bool true))];aB (!b) A (aB (!d) A (LawZNarrows.Qc a c)):=cJ aT
theorem wW a b:Qc a b=aM (0<=u64.wrap (a-1)/\u64.wrap (a-1)<18446744073709551616) (aD (jQ.xD (u64.wrap (a-1))) fun c=>aM (0<=u64.wrap (a+1)/\u64.wrap (a+1)<18446744073709551616) (aD (jQ.xD (u64.wrap (a+1))) fun d=>aM (0<=a/\a<18446744073709551616) (aB (c !=d) (some [D.s (sc (bool true))]) (some [D.s (sc (bool (jQ.xD a==b)))])))):=cJ aT
open W.Ziv W.aAS
def sp(fn b:Int):Prop×List D:=(0<=b/\b<4294967296,[.s (.sc (.bool true))])
theorem spec:fL E f7 aE (pN .i64) (pN .u32) sp:=by
 intro fn b h;have Sr:0<=b/\b<4294967296:=h;have hb:0<=b/\b<18446744073709551616:=by omega
 refine(start fn b).trans ?_;rw[wrap_u64 hb.1 hb.2,gP trivial,gP hb,aG];unfold sp;cases hF:yP.jD 32 fn b with
 |false=>rfl
 |true =>
  unfold yP.jD at hF;rw[Bool.and_eq_true,decide_eq_true_eq,Bool.not_eq_true']at hF;obtain⟨he,hs⟩:=hF;have hn:=Yk hb he hs;have Ds:sg 32=2147483648:=rfl;have i32:kJ.oD (Ch.Eb 32)=2139095040:=rfl;have f1:=hn.fin.2.2.1;have f2:=hn.fin.2.2.2;rw[Ds]at f1 f2;rw[i32]at f2;obtain⟨w0,w1,w2,w3,w4,w5⟩:=aAR.aEM Sr.1 Sr.2 f1 f2;have hw:Ns 64 fn (dC.vG b):=⟨⟨.inr rfl,⟨w1,w2⟩,w3,w4⟩,hn.f1,hn.f6,fun c4=>by rw[w5];exact hn.ex c4⟩;have oe:=bBN hw;have os:=aYV hw;have cAM:fB.xV 32 b=dC.vG b:=if_pos rfl;have aJT:fB.xV 64 (dC.vG b)=dC.vG b:=if_neg (by decide);rw[cDE,bF,gP hb,gP ⟨w1,w2⟩,aG,aG,aG,gP hb,aG,aG,aG,gD w0,gD oe,gD he,Fj];cases v1:(kO.Bz 64 fn (dC.vG b)).2.1 with
  |false=>rfl
  |true =>
   cases v2:(kO.Bz 32 fn b).2.1 with
   |false=>rfl
   |true =>
    have a1:=Xg ⟨w1,w2⟩ oe os v1;have a2:=Xg hb he hs v2;rw[aJT]at a1;rw[cAM]at a2;have q:=a1.bd (.inr rfl);have q:0<=(kO.Bz 64 fn (dC.vG b)).1/\(kO.Bz 64 fn (dC.vG b)).1<18446744073709551616:=q;have m:∀z:Int,0<=u64.wrap z/\u64.wrap z<18446744073709551616:=fun z=>by rw[fM];omega
    rw[cDE,bF,bF,wW,gP (m _),aG,gP (m _),aG,gP q]
    by_cases c:jQ.xD (u64.wrap ((kO.Bz 64 fn (dC.vG b)).1-1))=jQ.xD (u64.wrap ((kO.Bz 64 fn (dC.vG b)).1+1))
    ·rw[gD c,beq_iff_eq.2 (aCG a1 a2 c)]
    ·rw[nW c]
def aI:dJ:=orc2 (pN .i64) (pN .u32) sp
theorem fnok:uR prog E 7 f7 aE:=aJJ tN mixed (nJ _ rfl (aA Mc.ok (aA yP.ok (aA dC.ok (aA kO.ok (aA jQ.ok aC))))) (pJ)) func7 rfl rfl rfl
theorem ok:mN prog base.glob 7 aI:=fnok.lF rfl spec
end LawZNarrows
end W
namespace AI
open Go Go.RowKit Go.ChangeShapes Go.WideShapes Go.ChangeAt
abbrev noX:Nat->Prop:=fun _=>False
theorem aWD{w:World}{a:Addr}{v:Value}(h:w.cell? a=some v):a=⟨a.block,a.off,none⟩/\a.block<w.heap.size:=by
 unfold World.cell? at h;split at h
 ·rename_i c t fr hb;split at h
  ·cases h
  ·rename_i hs;obtain⟨b,o,s⟩:=a;cases s with
   |some x=>simp at hs
   |none=>exact⟨rfl,(Array.getElem?_eq_some_iff.1 hb).1⟩
 ·cases h
section
variable {H:Type} {enc:TypeId×Value->H} {P:Program} {w:World} {held:Bool} {sp:Nat->Bool}
theorem glob_ints{name:String}{g:Nat}{t e:TypeId}{k:IntKind}{n fuel:Nat}{ns:List Int}{cs:Array Value}{p:List MemPlace}(hg:P.globalNamed name=some g)(hv:w.var? P name=some cs)(ht:P.underlying t=some (.array n e))(he:P.underlying e=some (.int k))(hc:P.cellsOf e=1)(hn:ns.length=n)(Dw:0<n)
  (hd:DataW.trod enc P w 0 sp held fuel t cs.toList=some (.agg (ns.map fun m=>.lit (.int k m)),p)):g<w.heap.size/\¬noX g/\wB noX w g 0 (yE k ns):=by
 obtain⟨xs,m1,_,hx,_,Ey,bYJ⟩:=DataW.trod_array ht hd;simp only[Prod.mk.injEq,DataW.agg.injEq]at hx;have cell:∀i v,ns[i]?=some v->w.cell? ⟨g,i,none⟩=some (.int k v):=by
  intro i v hi;have kM:i<n:=by have:=(List.getElem?_eq_some_iff.1 hi).1;omega
  have h1:=bYJ i kM;have bRI:xs[i]?=some xs[i]:=cBV (by omega);rw[bRI,hc,Nat.mul_one]at h1;obtain⟨m,e1,e2,_⟩:=DataW.trod_int he h1;have h2:=congrArg (fun l=>l[i]?) hx.1;simp only[cBI,hi,bRI,e2,Option.map_some]at h2;have bXF:v=m:=by simpa using h2
  subst bXF;have h3:((cs.toList.drop i).take 1)[0]?=some (.int k v):=by rw[e1];rfl
  rw[List.getElem?_take,aQ,List.getElem?_drop]at h3;have h4:=World.var?_cell hg hv i;rw[h4];simpa using h3
 have h0:ns[0]?=some ns[0]:=cBV (by omega);have hb:=(aWD (cell 0 _ h0)).2;refine⟨hb,id,fun i s hs=>⟨hb,id,?_⟩⟩;unfold yE at hs;rw[cBI]at hs;obtain⟨v,bFR,rfl⟩:=Option.map_eq_some_iff.1 hs;refine⟨_,by rw[Nat.zero_add];exact cell i v bFR,rfl,rfl⟩
end
theorem wf32{n:Int}(h:(Lit.int .u32 n).wf=true):0<=n/\n<4294967296:=by
 have h2:u32.min<=n/\n<=u32.max:=by simpa [Lit.wf] using h
 have e1:u32.min=0:=rfl;have e2:u32.max=4294967295:=rfl;omega
theorem calls_true{P:Program}{G:Nat->Option (IntKind×List Int)}{f:FuncId}{ds:List D}(hc:Contract P G f ds [.s (.sc (.bool true))]){w:World}{vs:List Value}(hG:GlobOk G noX w)(hl:ds.length=vs.length)
  (hr:∀(i:Nat) (d:D) (v:Value),ds[i]?=some d->vs[i]?=some v->mY noX w d v):Calls P f vs.toArray w fun e w'=>e=.returned (.bool true)/\Below w.heap.size w w':=by
 refine(hc noX w vs (fun _ h=>h.elim) hG hl hr).mono ?_;rintro e w' ⟨vI,rfl,hb,g,hl,_,hr⟩
 match vI,hl with
 | [v],_ =>
  have:=hr 0 _ v rfl rfl;obtain⟨rfl,_⟩:=this;exact⟨rfl,hb⟩
end AI
end Go.Proofs.YtplagoepbghhpaaGreatDoor
end
