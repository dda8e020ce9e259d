/- Contracts. -/
import Derived.WalkKit
import Derived.Test.YtplagoepbghhpaaGreatDoorBZivRises3
set_option linter.unusedVariables false
set_option linter.unusedSimpArgs false
set_option exponentiation.threshold 10000000
noncomputable section
open Go.IntKind(i8 i16 i32 i64 u8 u16 u32 u64)
open Go.Proofs.Tryz
open Nat renaming le_trans->bZP,lt_of_le_of_lt->cFC,pow_add->cDU,pow_succ->cDS,pow_pos->cBT,div_le_self->cJD,lt_of_lt_of_le->bZQ,mul_comm->cDR,zero_le->cEU,mul_lt_mul''->cGX,zero_add->bYV,sub_le->cFJ,mod_lt->cBB,le_refl->bYT,pow_lt_pow_right->cGC,one_mul->cCX,pow_le_pow_right->cBU,ble->bYW,le_of_ble_eq_true->cAR,add_mul->bZN,mul_assoc->cDV,mul_add->cDT,div_lt_of_lt_mul->cEL,div_div_eq_div_mul->cEN,beq->bYU,eq_of_beq_eq_true->bZI,mul_le_mul->cJC,mul_le_mul_right->cAI,add_zero->bZR,lt_succ_self->cMW,add_comm->cES,mul_lt_mul_of_pos_left->cMY,mul_lt_mul_of_pos_right->cLC,min_eq_left->cEX,mod_add_div->cJG,mul_le_mul_left->cBH,div_add_mod->cDZ
open Rat renaming le_of_lt->cEA,intCast_natCast->cKC,le_refl->cFB,intCast_mul->cKB,intCast_neg->cLS,natCast_mul->cFL,natCast_add->cJA,le_trans->cDY,mul_pos->cEK,intCast_sub->cMU,mul_assoc->cKA,mul_comm->cLP,intCast_add->cLT,le_antisymm->cMX
open Int renaming toNat_natCast->cCQ,natAbs_natCast->cEJ,eq_ofNat_of_zero_le->cDX,natAbs_neg->cFE,natAbs->cIQ,natAbs_mul->cEG,mul_nonneg->cKE,toNat->cMV,neg_mul->cID,mul_comm->cGL,natCast_mul->cEP,mul_ediv_add_emod->cHO,emod_nonneg->cHP,emod_lt_of_pos->cHQ,mul_le_mul_of_nonneg_left->cNA,tmod_eq_emod_of_nonneg->cHI,mul_le_mul_of_nonneg_right->cBD,natCast_nonneg->cIH
open Bool renaming not_true->cAT,false_or->cAU,or_true->cEQ,true_or->cED,true_and->cBV,and_eq_true->bYZ,not_false->cKD,and_eq_false_iff->cKM
open List renaming take->cHY,replicate->cAW,drop->cHX,take_length->cFF,length_take->cBJ,drop_zero->cFG,take_of_length_le->cFV,drop_replicate->cMG,length_replicate->cMC,nil_append->cCW
open Option renaming bind_eq_some_iff->cBA
namespace Go.Proofs.YtplagoepbghhpaaGreatDoor
open Go.Value(int bool slice)
open AI.S(sc ints)
namespace W
open Go AI M
namespace Iw
def E:Env:={ ({ base with C:=sO [(267,qM.aJ)] (callsOf [(261,Bt.aJ),(253,oB.prec)]),ioF:=Qc [(267,qM.aJ)],n0:=1,io:=[0] })with nt:=34,own:=[],keep:=fun k=>(tlook [(1,[0,1,2,6])] k).getD [],cut:=tlook [] }
def aF:=bd f265
theorem aX:Nk E aF:=nk
def L1(a:List Int)(b:Nat)(c:Nat) d f g:=tM E f265 aF 1 [(A.any,some { e:=(22:Nat),cont:=zO.ints u64 a }),(A.v (V.one (L.view 0 b c)),none),iZ d,iZ f,cA g]
theorem start al ao an b c:aI E f265 aF [D.io gW u64 al ao an,D.s (ints u64 b),D.s (ints u64 c)]=Iw.L1 al ao an b c 0:=eJ aX
theorem Sv a b c d e f:L1 a b c d e f=letI C:=(d.length:Int);letI B:=f+(e.length:Int);letI A:=cHX f.toNat (cHY (if C<i64.wrap B then C else i64.wrap B).toNat d);aB (decide (f<C)) (if 0<=f/\(f<=if C<i64.wrap B then C else i64.wrap B)/\((if C<i64.wrap B then C else i64.wrap B)<=if C<i64.wrap B then C else i64.wrap B)/\(if C<i64.wrap B then C else i64.wrap B)<=C then aO (M6.dJ A/\A.length<=1099511627776) (aC (M6.dg (M6.val A)) fun g=>aO (oB.can g e) (aC (M6.dg (M6.val g*M6.val e)) fun h=>aO (M6.dJ a/\b=0/\c=a.length/\M6.dJ h/\0<=f/\f.toNat+h.length<=a.length/\a.length<=1099511627776/\M6.val a+M6.val h*(18446744073709551616:Nat)^f.toNat<(18446744073709551616:Nat)^a.length) (aC (M6.qT a.length (M6.val a+M6.val h*(18446744073709551616:Nat)^f.toNat)) fun i=>Iw.L1 i b c d e (i64.wrap B))))else none) (some [D.io 22 u64 a 0 0]):=lJ aX
def sp(x:List Int×Nat×Nat)(a b:List Int):Prop×List D:=(M6.dJ x.1/\x.2.1=0/\x.2.2=x.1.length/\M6.cV a/\M6.cV b/\x.1.length=a.length+b.length/\x.1.length<=549755813888/\M6.val x.1=0/\0<b.length/\2*b.length<=a.length/\oB.less (a.length+b.length),
 [.io gW .u64 (M6.qT x.1.length (M6.val a*M6.val b)) 0 0])
theorem bOE{a b:List Int}{N:Nat}(hN:N<=549755813888)(ha:M6.cV a)(hb:M6.cV b)(bMU:N=a.length+b.length)(h0:0<b.length)(h2:2*b.length<=a.length)(hc:oB.less (a.length+b.length)):∀(r at_:Nat) (z:List Int),a.length<=at_+r->at_<=N->z.length=N->M6.dJ z->M6.val z=M6.val (a.take at_)*M6.val b ->
  L1 z 0 N a b at_=some [.io gW .u64 (M6.qT N (M6.val a*M6.val b)) 0 0]:=by
 intro r
 induction r with
 |zero =>
  intro t z hr ht hz hd hv;rw[Sv,aL];rw[M6.dV (by omega)]at hv;rw[M6.qF hd hz hv]
 |succ r ih =>
  intro t z hr ht hz hd hv
  by_cases kD:t<a.length
  ·have w:i64.wrap ((t:Int)+(b.length:Int))=((t+b.length:Nat):Int):=by rw[wrap_i64];omega
   obtain⟨e,he⟩:∃e:Nat,e=min a.length (t+b.length):=⟨_,rfl⟩;have bVL:(if(a.length:Int)<((t+b.length:Nat):Int)then(a.length:Int)else((t+b.length:Nat):Int))=(e:Int):=by split <;> omega
   have Rt:((a.take e).drop t).length=e-t:=by rw[List.length_drop,cBJ];omega
   have bPU:M6.dJ ((a.take e).drop t):=(ha.lM.take _).drop _;have bLA:=M6.dW bPU;rw[Rt]at bLA;have Ps:M6.val (a.take e)=M6.val (a.take t)+18446744073709551616^t*M6.val ((a.take e).drop t):=by
    have:=M6.jR (a.take e) (n:=t) (by rw[cBJ];omega);rw[List.take_take,show min t e=t from by omega]at this;exact this
   have bQI:=M6.dW hb.lM;have jD:=M6.jA ha.lM e;have h1:M6.val ((a.take e).drop t)*M6.val b<18446744073709551616^(e-t+b.length):=by
    rw[cDU];exact cGX bLA bQI
   have h3:M6.val (a.take e)*M6.val b<18446744073709551616^N:=by
    have:M6.val (a.take e)*M6.val b<18446744073709551616^(e+b.length):=by
     rw[cDU];exact cGX jD bQI
    exact bZQ this (M6.rH (by omega))
   have h4:M6.val z+M6.val ((a.take e).drop t)*M6.val b*18446744073709551616^t=M6.val (a.take e)*M6.val b:=by
    rw[hv,Ps,bZN];congr 1;rw[cDR (18446744073709551616^t),Nat.mul_right_comm]
   rw[Sv,aQ,w,bVL,if_pos ⟨by omega,by omega,by omega,by omega⟩];simp only[cCQ];rw[gP ⟨bPU,by omega⟩,aH,gP (hc _ _ (M6.aZ _) hb (by have:=M6.eI bLA;omega)),aH,M6.bZ,M6.bZ];have Jj:=M6.eI h1;rw[gP ⟨hd,by trivial,by omega,M6.mF _,by omega,by omega,by omega,by rw[h4,hz];exact h3⟩,aH,hz,h4];refine ih (t+b.length) _ (by omega) (by omega) (M6.iW h3) M6.mT ?_;rw[M6.mS];congr 1
   by_cases bFT:t+b.length<=a.length
   ·rw[he,Nat.min_eq_right bFT]
   ·rw[he,cEX (by omega),cFF,M6.dV (by omega)]
  ·rw[Sv,aL];rw[M6.dV (by omega)]at hv;rw[M6.qF hd hz hv]
theorem spec(x:List Int×Nat×Nat)(a b:List Int)(h:(sp x a b).1):aI E f265 aF [(Fl gW .u64).put x,(pI .u64).put a,(pI .u64).put b]=some (sp x a b).2/\∃rs nV,(sp x a b).2=rs ++ [.io gW .u64 nV 0 0]/\nV.length=x.1.length:=by
 obtain⟨xl,xo,xn⟩:=x;obtain⟨hd,ho,hn,ha,hb,hl,hN,hv,h0,h2,hc⟩:=h;simp only at hd ho hn hl hN hv;subst ho;subst hn;refine⟨(start xl 0 xl.length a b).trans ?_,[],_,rfl,M6.iW ?_⟩
 ·exact bOE hN ha hb hl h0 h2 hc a.length 0 xl (by omega) (by omega) rfl hd (by simp[hv,M6.val])
 ·show _<18446744073709551616^xl.length;rw[hl,cDU];exact cGX (M6.dW ha.lM) (M6.dW hb.lM)
def aJ:dK:=orc3 (Fl gW .u64) (pI .u64) (pI .u64) sp
theorem fnok:mZ prog E 265 f265 aF:=xC sT mixed (mW _ _ rfl rfl (nG qM.ok yQ) (aA Bt.ok (aA oB.aEQ aD)) (oR)) func265 rfl rfl rfl rfl rfl
theorem ok:qZ prog base.glob 265 aJ:=fnok.zR rfl spec
end Iw
namespace bAQ
def E:=mE [(261,Bt.aJ)] 29 [16,21] [] []
def aF:=bd f268
theorem aX:Nk E aF:=nk
theorem start a b:aI E f268 aF [D.s (ints u64 a),D.s (sc (int i64 b))]=letI C:=cHX 0 (cHY b.toNat a);letI A:=(a.length:Int);letI F:=cHY A.toNat a;letI B:=cHX 0 F;aB (decide (A<=b)) (if(0:Int)<=(0:Int)/\0<=A/\A<=A/\A<=A then aO (M6.dJ B/\B.length<=1099511627776) (some [D.s (ints u64 (M6.dg (M6.val B))),D.s (sc (slice none 0 0))])else none) (if(0:Int)<=(0:Int)/\0<=b/\b<=b/\b<=A then aO (M6.dJ C/\C.length<=1099511627776) (if 0<=b/\b<=A/\A<=A/\A<=A then some [D.s (ints u64 (M6.dg (M6.val C))),D.s (ints u64 (cHX b.toNat F))]else none)else none):=eJ aX
def sp(a:List Int)(k:Int):Prop×List D:=(M6.cV a/\a.length<=1099511627776/\0<=k,[.s (.ints .u64 (M6.dg (M6.val a%18446744073709551616^k.toNat))),.s (.ints .u64 (M6.dg (M6.val a/18446744073709551616^k.toNat)))])
theorem spec:Qx E f268 aF (pI .u64) (pN .i64) sp:=by
 rintro a k ⟨ha,hl,h0⟩;obtain⟨k,rfl⟩:=cDX h0;simp only[sp,cCQ];have Qf:=start a (k:Int)
 by_cases hk:a.length<=k
 ·rw[aQ,aW,cCQ,cFF,cFG,gP ⟨ha.lM,hl⟩]at Qf;refine⟨_,Qf,?_⟩;have h1:M6.val a<18446744073709551616^k:=bZQ (M6.dW ha.lM) (M6.rH hk);rw[Nat.mod_eq_of_lt h1,Nat.div_eq_of_lt h1,M6.cT];exact .cons (.refl _) (.cons (.nil _) .nil)
 ·rw[aL,aW,cCQ,cCQ,cFG,gP ⟨ha.lM.take _,by rw[cBJ];omega⟩,aW,cFF,M6.uI ha.lM]at Qf;refine⟨_,Qf,?_⟩;have h2:a.drop k=M6.dg (M6.val a/18446744073709551616^k):=by
   rw[<-M6.oF ha.lM];exact M6.Xp ha k
  rw[h2];exact .refl _
def aJ:dK:=orc2 (pI .u64) (pN .i64) sp
theorem ok:OK 268 aJ:=(fJ E aF (aA Bt.ok aD) func268).aQO rfl spec
end bAQ
namespace PSum
def E:Env:={ ({ base with C:=sO [(267,qM.aJ)] (callsOf [(261,Bt.aJ)]),ioF:=Qc [(267,qM.aJ)] })with nt:=25,own:=[24],keep:=fun k=>(tlook [] k).getD [],cut:=tlook [(3,[0,1])] }
def aF:=bd f269
theorem aX:Nk E aF:=nk
def J3 a b:=mU E f269 aF 3 [iZ a,iZ b]
theorem start a b:aI E f269 aF [D.s (ints u64 a),D.s (ints u64 b)]=aB (decide ((a.length:Int)<(b.length:Int))) (PSum.J3 b a) (PSum.J3 a b):=eJ aX
theorem iL a b:J3 a b=letI F:=(a.length:Int);letI G:=F+(1:Int);letI B:=i64.wrap G;letI A:=cHY B.toNat a ++ cHX (min a.length B.toNat) (cAW B.toNat (0:Int));letI C:=M6.qT A.length (M6.val A+M6.val b*1);if 0<=i64.wrap G/\i64.wrap G<=i64.wrap G/\i64.wrap G<=8796093022208 then aO (M6.dJ A/\(0:Nat)=(0:Nat)/\B.toNat=A.length/\M6.dJ b/\(0:Int)<=(0:Int)/\(0:Nat)+b.length<=A.length/\A.length<=1099511627776/\M6.val A+M6.val b*1<(18446744073709551616:Nat)^A.length) (aO (M6.dJ C/\C.length<=1099511627776) (some [D.s (ints u64 (M6.dg (M6.val C)))]))else none:=cJ aX
def sp(a b:List Int):Prop×List D:=(M6.cV a/\M6.cV b/\a.length<=549755813888/\b.length<=549755813888,[.s (.ints .u64 (M6.dg (M6.val a+M6.val b)))])
theorem aUH{a:List Int}{n:Nat}:cHY (a.length+n) a ++ cHX (min a.length (a.length+n)) (cAW (a.length+n) (0:Int))=a ++ cAW n 0:=by
 rw[cFV (by omega),cMG];congr 2;omega
theorem J{a b:List Int}(ha:M6.cV a)(hb:M6.cV b)(hl:a.length<=549755813888)(aWI:b.length<=a.length):J3 a b=some [.s (.ints .u64 (M6.dg (M6.val a+M6.val b)))]:=by
 have w:i64.wrap ((a.length:Int)+1)=((a.length+1:Nat):Int):=by rw[wrap_i64];omega
 have h1:=M6.dW ha.lM;have h2:=M6.dW hb.lM;have h3:=M6.rH aWI;have aSY:M6.val a+M6.val b<18446744073709551616^(a.length+1):=by rw[cDS];omega
 have hv:M6.val (a ++ cAW 1 0)=M6.val a:=by rw[M6.kA,M6.kR];omega
 rw[iL,w,cCQ,aUH,aW,hv,Nat.mul_one,List.length_append,cMC,
  gP ⟨M6.rZ.2 ⟨ha.lM,M6.lS _⟩,rfl,rfl,hb.lM,by omega,by omega,by omega,aSY⟩,gP ⟨M6.mT,by rw[M6.iW aSY];omega⟩,M6.mS]
theorem spec:hI E f269 aF (pI .u64) (pI .u64) sp:=by
 rintro a b ⟨ha,hb,h1,h2⟩;refine(start a b).trans ?_
 by_cases hl:a.length<b.length
 ·rw[aQ,J hb ha h2 (by omega),cES];rfl
 ·rw[aL,J ha hb h1 (by omega)];rfl
def aJ:dK:=orc2 (pI .u64) (pI .u64) sp
theorem fnok:uB prog E 269 f269 aF:=aID sT mixed (mW _ _ rfl rfl (nG qM.ok yQ) (aA Bt.ok aD) (oR)) func269 rfl rfl rfl
theorem ok:lO prog base.glob 269 aJ:=fnok.nF rfl spec
end PSum
namespace Jp
def E:Env:={ ({ base with n0:=1,io:=[0] })with nt:=47,own:=[],keep:=fun k=>(tlook [(7,[0,4,6]),(2,[0,1,4,8,9])] k).getD [],cut:=tlook [] }
def aF:=bd f270
theorem aX:Nk E aF:=nk
def L2(a:List Int)(b:Nat)(c:Nat) d f g h:=tM E f270 aF 2 [(A.any,some { e:=(22:Nat),cont:=zO.ints u64 a }),(A.v (V.one (L.view 0 b c)),none),iZ d,cY f,cA g,cA h]
def L7(a:List Int)(b:Nat)(c:Nat) d f:=tM E f270 aF 7 [(A.any,some { e:=(22:Nat),cont:=zO.ints u64 a }),(A.v (V.one (L.view 0 b c)),none),cY d,cA f]
theorem start al ao an b:aI E f270 aF [D.io gW u64 al ao an,D.s (ints u64 b)]=Jp.L2 al ao an b 0 (b.length:Int) 0:=eJ aX
theorem mK a b c d e f g:L2 a b c d e f g=letI A:=b+g.toNat;aB (decide (g<f)) (if 0<=g/\g<(c:Int)then if 0<=g/\g<(d.length:Int)then aO (0<=a.getD A 0/\0<=d.getD g.toNat 0/\d.getD g.toNat 0<(18446744073709551616:Int)/\0<=e/\e<=1) (if 0<=g/\g<(c:Int)then Jp.L2 (a.set A ((a.getD A 0-d.getD g.toNat 0-e)%18446744073709551616)) b c d (if a.getD A 0<d.getD g.toNat 0+e then(1:Int)else(0:Int)) f (i64.wrap (g+1))else none)else none else none) (Jp.L7 a b c e (d.length:Int)):=lJ aX
theorem yB a b c d e:L7 a b c d e=letI A:=b+e.toNat;aB (decide (0<d)) (if 0<=e/\e<(c:Int)then aO (0<=a.getD A 0/\(0:Int)<=(0:Int)/\(0:Int)<(18446744073709551616:Int)/\0<=d/\d<=1) (if 0<=e/\e<(c:Int)then Jp.L7 (a.set A ((a.getD A 0-(0:Int)-d)%18446744073709551616)) b c (if a.getD A 0<(0:Int)+d then(1:Int)else(0:Int)) (i64.wrap (e+1))else none)else none) (some [D.io 22 u64 a 0 0]):=lJ aX
def sp(x:List Int×Nat×Nat)(b:List Int):Prop×List D:=(M6.dJ x.1/\x.2.1=0/\x.2.2=x.1.length/\M6.dJ b/\b.length<=x.1.length/\x.1.length<=1099511627776/\M6.val b<=M6.val x.1,
 [.io gW .u64 (M6.qT x.1.length (M6.val x.1-M6.val b)) 0 0])
theorem bOB{V W N:Nat}(hN:N<=1099511627776)(hT:W<=V):∀(r j:Nat) (z:List Int) (c:Int),j+r=N+1->z.length=N->M6.dJ z->0<=c->c<=1->M6.val z+W=V+18446744073709551616^j*c.toNat ->
  L7 z 0 N c j=some [.io gW .u64 (M6.qT N (V-W)) 0 0]:=by
 intro r
 induction r with
 |zero =>
  intro j z c hj hz hd h0 h1 hv;have hc:c=0:=by
   have h2:=M6.rH (show N<=j by omega);have h3:=M6.dW hd;rw[hz]at h3;rcases Int.lt_or_le 0 c with h4 |h4
   ·have:c=1:=by omega
    subst this;simp at hv;omega
   ·omega
  subst hc;rw[yB,aL];simp at hv;rw[M6.qF hd hz (v:=V-W) (by omega)]
 |succ r ih =>
  intro j z c hj hz hd h0 h1 hv
  by_cases hc:c=0
  ·subst hc;rw[yB,aL];simp at hv;rw[M6.qF hd hz (v:=V-W) (by omega)]
  ·have bCC:c=1:=by omega
   subst bCC;have bVG:j<N:=by
    rcases Nat.lt_or_ge j N with h |h
    ·exact h
    ·have h2:=M6.rH h;have h3:=M6.dW hd;rw[hz]at h3;simp at hv;omega
   have g:=hd.get j;have w2:i64.wrap ((j:Int)+1)=((j+1:Nat):Int):=by rw[wrap_i64];omega
   rw[yB,aQ,aW,bYV,cCQ,gP ⟨g.1,by omega,by omega,by omega,by omega⟩,aW,w2];refine ih (j+1) _ _ (by omega) (by simp[hz]) (M6.pC hd (by omega)) (by split <;> omega) (by split <;> omega) ?_;have hs:=M6.sH (a:=z) (j:=j) (by omega) ((z.getD j 0-0-1)%18446744073709551616);rw[cDS,cDV];generalize z.getD j 0=x at *;generalize M6.val (z.set j _)=U at *;generalize 18446744073709551616^j=B at *;have e:((x-0-1)%18446744073709551616).toNat+1=x.toNat+18446744073709551616*(if x<0+1 then(1:Int)else 0).toNat:=by split <;> omega
   have e2:B*((x-0-1)%18446744073709551616).toNat+B=B*x.toNat+B*(18446744073709551616*(if x<0+1 then(1:Int)else 0).toNat):=by
    rw[<-cDT,<-e,cDT,Nat.mul_one]
   simp at hv;omega
theorem bOD{b:List Int}{V N:Nat}(hN:N<=1099511627776)(hb:M6.dJ b)(hk:b.length<=N)(hT:M6.val b<=V):∀(r i:Nat) (z:List Int) (c:Int),i+r=b.length->z.length=N->M6.dJ z->0<=c->c<=1 ->
  M6.val z+M6.val (b.take i)=V+18446744073709551616^i*c.toNat ->
  L2 z 0 N b c b.length i=some [.io gW .u64 (M6.qT N (V-M6.val b)) 0 0]:=by
 intro r
 induction r with
 |zero =>
  intro i z c hi hz hd h0 h1 hv;rw[mK,aL];have aYV:i=b.length:=by omega
  subst aYV;rw[cFF]at hv;exact bOB hN hT (N+1-b.length) b.length z c (by omega) hz hd h0 h1 hv
 |succ r ih =>
  intro i z c hi hz hd h0 h1 hv;have g:=hd.get i;have g2:=hb.get i;have w2:i64.wrap ((i:Int)+1)=((i+1:Nat):Int):=by rw[wrap_i64];omega
  rw[mK,aQ,aW,aW,bYV,cCQ,gP ⟨g.1,g2.1,g2.2,h0,h1⟩,aW,w2];refine ih (i+1) _ _ (by omega) (by simp[hz]) (M6.pC hd (by omega)) (by split <;> omega) (by split <;> omega) ?_;have hs:=M6.sH (a:=z) (j:=i) (by omega) ((z.getD i 0-b.getD i 0-c)%18446744073709551616);rw[M6.dT,cDS,cDV];generalize z.getD i 0=x at *;generalize b.getD i 0=y at *;generalize M6.val (z.set i _)=W at *;generalize 18446744073709551616^i=B at *;generalize M6.val (b.take i)=U at *;have e:((x-y-c)%18446744073709551616).toNat+y.toNat+c.toNat=x.toNat+18446744073709551616*(if x<y+c then(1:Int)else 0).toNat:=by split <;> omega
  have e2:B*((x-y-c)%18446744073709551616).toNat+B*y.toNat+B*c.toNat=B*x.toNat+B*(18446744073709551616*(if x<y+c then(1:Int)else 0).toNat):=by
   rw[<-cDT,<-cDT,e,cDT]
  omega
theorem spec(x:List Int×Nat×Nat)(b:List Int)(h:(sp x b).1):aI E f270 aF [(Fl gW .u64).put x,(pI .u64).put b]=some (sp x b).2/\∃rs nV,(sp x b).2=rs ++ [.io gW .u64 nV 0 0]/\nV.length=x.1.length:=by
 obtain⟨xl,xo,xn⟩:=x;obtain⟨hd,ho,hn,hb,aJS,hl,hT⟩:=h;simp only at hd ho hn hb aJS hl hT;subst ho;subst hn;refine⟨(start xl 0 xl.length b).trans ?_,[],_,rfl,M6.iW (by have:=M6.dW hd;simp only;omega)⟩;have:=bOD hl hb aJS hT b.length 0 xl 0 (by omega) rfl hd (by omega) (by omega) (by simp[M6.val]);exact this
def aJ:dK:=orc2 (Fl gW .u64) (pI .u64) sp
theorem fnok:mZ prog E 270 f270 aF:=xC sT mixed (mV _ rfl aD (oR)) func270 rfl rfl rfl rfl rfl
theorem ok:qZ prog base.glob 270 aJ:=fnok.nF rfl spec
end Jp
namespace Lo
def E:Env:={ ({ base with C:=sO [(267,qM.aJ),(270,Jp.aJ)] (callsOf [(261,Bt.aJ),(268,bAQ.aJ),(269,PSum.aJ),(253,oB.prec)]),ioF:=Qc [(267,qM.aJ),(270,Jp.aJ)],n0:=1,io:=[0] })with nt:=62,own:=[42],keep:=fun k=>(tlook [] k).getD [],cut:=tlook [] }
def aF:=bd f266
theorem aX:Nk E aF:=nk
theorem start al ao an b c:aI E f266 aF [D.io gW u64 al ao an,D.s (ints u64 b),D.s (ints u64 c)]=letI B:=i64.wrap ((b.length:Int)+(1:Int));letI H:=B.tdiv 2;letI F:=i64.wrap ((2:Int)*i64.wrap H);letI C:=i64.wrap H;aO (M6.cV b/\b.length<=1099511627776/\0<=i64.wrap H) (aC (M6.dg (M6.val b%(18446744073709551616:Nat)^C.toNat)) fun a=>aC (M6.dg (M6.val b/(18446744073709551616:Nat)^C.toNat)) fun d=>aO (M6.cV c/\c.length<=1099511627776/\0<=i64.wrap H) (aC (M6.dg (M6.val c%(18446744073709551616:Nat)^C.toNat)) fun e=>aC (M6.dg (M6.val c/(18446744073709551616:Nat)^C.toNat)) fun f=>aO (oB.can a e) (aC (M6.dg (M6.val a*M6.val e)) fun g=>letI A:=cHY ao al ++ (cHY an g ++ cHX (ao+min g.length an) al);aO (oB.can d f) (aC (M6.dg (M6.val d*M6.val f)) fun h=>aO (M6.cV a/\M6.cV d/\a.length<=549755813888/\d.length<=549755813888) (aC (M6.dg (M6.val a+M6.val d)) fun i=>aO (M6.cV e/\M6.cV f/\e.length<=549755813888/\f.length<=549755813888) (aC (M6.dg (M6.val e+M6.val f)) fun j=>aO (oB.can i j) (aC (M6.dg (M6.val i*M6.val j)) fun k=>aO (M6.dJ k/\(0:Nat)=(0:Nat)/\k.length=k.length/\M6.dJ g/\g.length<=k.length/\k.length<=1099511627776/\M6.val g<=M6.val k) (aC (M6.qT k.length (M6.val k-M6.val g)) fun l=>aO (M6.dJ l/\(0:Nat)=(0:Nat)/\k.length=l.length/\M6.dJ h/\h.length<=l.length/\l.length<=1099511627776/\M6.val h<=M6.val l) (aC (M6.qT l.length (M6.val l-M6.val h)) fun m=>letI G:=M6.dg (M6.val m);if u64=u64/\ao+an<=al.length then aO (M6.dJ m/\m.length<=1099511627776) (aO (M6.dJ A/\ao=0/\an=A.length/\M6.dJ G/\0<=i64.wrap H/\C.toNat+G.length<=A.length/\A.length<=1099511627776/\M6.val A+M6.val G*(18446744073709551616:Nat)^C.toNat<(18446744073709551616:Nat)^A.length) (aC (M6.qT A.length (M6.val A+M6.val G*(18446744073709551616:Nat)^C.toNat)) fun n=>aO (M6.dJ n/\ao=0/\an=n.length/\M6.dJ h/\0<=i64.wrap ((2:Int)*i64.wrap H)/\F.toNat+h.length<=n.length/\n.length<=1099511627776/\M6.val n+M6.val h*(18446744073709551616:Nat)^F.toNat<(18446744073709551616:Nat)^n.length) (aC (M6.qT n.length (M6.val n+M6.val h*(18446744073709551616:Nat)^F.toNat)) fun o=>some [D.io 22 u64 o 0 0])))else none))))))))):=eJ aX
def sp(x:List Int×Nat×Nat)(a b:List Int):Prop×List D:=(M6.dJ x.1/\x.2.1=0/\x.2.2=x.1.length/\M6.cV a/\M6.cV b/\x.1.length=a.length+b.length/\x.1.length<=274877906944/\M6.val x.1=0/\4<=b.length/\b.length<=a.length/\oB.less (a.length+b.length),
 [.io gW .u64 (M6.qT x.1.length (M6.val a*M6.val b)) 0 0])
theorem bJX(a0 a1 b0 b1 K:Nat):(a0+K*a1)*(b0+K*b1)=a0*b0+(a0*b1+a1*b0)*K+a1*b1*(K*K):=by grind
theorem bJW(a0 a1 b0 b1:Nat):(a0+a1)*(b0+b1)=a0*b0+a1*b1+(a0*b1+a1*b0):=by grind
theorem Hb{v n k:Nat}(h:v<18446744073709551616^n):v/18446744073709551616^k<18446744073709551616^(n-k):=by
 apply cEL;rw[<-cDU];exact bZQ h (M6.rH (by omega))
theorem aES{v k N:Nat}(hk:k<=N)(h:v*18446744073709551616^k<18446744073709551616^N):v<18446744073709551616^(N-k):=by
 have e:18446744073709551616^N=18446744073709551616^(N-k)*18446744073709551616^k:=by rw[<-cDU];congr 1;omega
 rw[e]at h;exact Nat.lt_of_mul_lt_mul_right h
theorem spec(x:List Int×Nat×Nat)(a b:List Int)(h:(sp x a b).1):aI E f266 aF [(Fl gW .u64).put x,(pI .u64).put a,(pI .u64).put b]=some (sp x a b).2/\∃rs nV,(sp x a b).2=rs ++ [.io gW .u64 nV 0 0]/\nV.length=x.1.length:=by
 obtain⟨xl,xo,xn⟩:=x;obtain⟨hd,ho,hn,ha,hb,hl,hN,hv,h4,aWI,hc⟩:=h;simp only at hd ho hn hl hN hv;subst ho;subst hn;have aNX:=M6.dW ha.lM;have bIO:=M6.dW hb.lM;have aTN:M6.val a*M6.val b<18446744073709551616^xl.length:=by rw[hl,cDU];exact cGX aNX bIO
 refine⟨(start xl 0 xl.length a b).trans ?_,[],_,rfl,M6.iW aTN⟩;obtain⟨k,hk⟩:∃k:Nat,k=(a.length+1)/2:=⟨_,rfl⟩;have w:i64.wrap ((i64.wrap ((a.length:Int)+1)).tdiv 2)=(k:Int):=by
  rw[wrap_i64 (n:=(a.length:Int)+1),Int.tdiv_eq_ediv_of_nonneg (by omega),wrap_i64];omega
 have w2:i64.wrap (2*(k:Int))=((2*k:Nat):Int):=by rw[wrap_i64];omega
 have aVW:xl=cAW xl.length 0:=by
  have:=M6.qF hd rfl hv;rw[M6.aOD]at this;exact this
 rw[w,w2,gP ⟨ha,by omega,by omega⟩];simp only[aH,cCQ];have a0l:=M6.eI (cBB (M6.val a) (cBT (n:=k) (by omega:0<18446744073709551616)));have b0l:=M6.eI (cBB (M6.val b) (cBT (n:=k) (by omega:0<18446744073709551616)));have a1l:=M6.eI (Hb (k:=k) aNX);have b1l:=M6.eI (Hb (k:=k) bIO);have hA:=cJG (M6.val a) (18446744073709551616^k);have hB:=cJG (M6.val b) (18446744073709551616^k);have ea0:M6.val a%18446744073709551616^k<18446744073709551616^k:=cBB _ (cZ);have eb0:M6.val b%18446744073709551616^k<18446744073709551616^k:=cBB _ (cZ);have ea1:M6.val a/18446744073709551616^k<18446744073709551616^k:=bZQ (Hb aNX) (M6.rH (by omega));have eb1:M6.val b/18446744073709551616^k<18446744073709551616^k:=bZQ (Hb bIO) (M6.rH (by omega));generalize M6.val a%18446744073709551616^k=a0 at *;generalize M6.val a/18446744073709551616^k=a1 at *;generalize M6.val b%18446744073709551616^k=b0 at *;generalize M6.val b/18446744073709551616^k=b1 at *;have s6:a0+a1<18446744073709551616^(k+1):=by rw[cDS];omega
 have s7:b0+b1<18446744073709551616^(k+1):=by rw[cDS];omega
 have s6l:=M6.eI s6;have s7l:=M6.eI s7;have aFG:=bJX a0 a1 b0 b1 (18446744073709551616^k);rw[hA,hB]at aFG;have hmid:=bJW a0 a1 b0 b1;have s8:(a0+a1)*(b0+b1)<18446744073709551616^(2*(k+1)):=by
  rw[Nat.two_mul,cDU];exact cGX s6 s7
 have s8l:=M6.eI s8;have bXD:18446744073709551616^k*18446744073709551616^k=18446744073709551616^(2*k):=by rw[<-cDU,Nat.two_mul]
 rw[bXD]at aFG;have low:a0*b0<=(a0+a1)*(b0+b1):=by omega
 have bLH:=M6.Ay low;have bJT:a1*b1<=(a0+a1)*(b0+b1):=by omega
 have bLG:=M6.Ay bJT;rw[gP ⟨hb,by omega,by omega⟩,gP (hc _ _ (M6.aZ _) (M6.aZ _) (by omega)),gP (hc _ _ (M6.aZ _) (M6.aZ _) (by omega)),gP ⟨M6.aZ _,M6.aZ _,by omega,by omega⟩,gP ⟨M6.aZ _,M6.aZ _,by omega,by omega⟩];simp only[M6.bZ];have f9:(a0+a1)*(b0+b1)-a0*b0<18446744073709551616^(M6.dg ((a0+a1)*(b0+b1))).length:=by
  have:=M6.xL (n:=(a0+a1)*(b0+b1));omega
 have bXS:=M6.iW f9;rw[gP (hc _ _ (M6.aZ _) (M6.aZ _) (by omega)),gP ⟨M6.mF _,by trivial,by trivial,M6.mF _,bLH,by omega,low⟩,bXS,M6.mS,
  gP ⟨M6.mT,by trivial,by trivial,M6.mF _,bLG,by omega,by omega⟩]
 have bYB:(a0+a1)*(b0+b1)-a0*b0-a1*b1=a0*b1+a1*b0:=by omega
 rw[bYB];have f10:a0*b1+a1*b0<18446744073709551616^(M6.dg ((a0+a1)*(b0+b1))).length:=by
  have:=M6.xL (n:=(a0+a1)*(b0+b1));omega
 have aBP:a0*b0<18446744073709551616^xl.length:=by omega
 have bPY:=M6.eI aBP;have bFR:cHY 0 xl ++ (cHY xl.length (M6.dg (a0*b0)) ++ cHX (0+min (M6.dg (a0*b0)).length xl.length) xl)=M6.qT xl.length (a0*b0):=by
  rw[List.take_zero,cCW,cFV bPY,bYV,cEX bPY]
  conv=>lhs;rw[aVW,cMG]
  rfl
 rw[bFR,if_pos ⟨by trivial,by omega⟩,gP ⟨M6.mT,by rw[M6.iW f10];omega⟩,M6.mS,M6.mS,M6.iW aBP];have bUT:(a0*b1+a1*b0)*18446744073709551616^k<18446744073709551616^xl.length:=by omega
 have bEW:=M6.eI (aES (by omega) bUT);have bEF:a0*b0+(a0*b1+a1*b0)*18446744073709551616^k<18446744073709551616^xl.length:=by omega
 rw[gP ⟨M6.mT,by trivial,by trivial,M6.mF _,by omega,by omega,by omega,bEF⟩,M6.iW bEF,M6.mS];have bVN:a1*b1*18446744073709551616^(2*k)<18446744073709551616^xl.length:=by omega
 have hhl:=M6.eI (aES (by omega) bVN);rw[gP ⟨M6.mT,by trivial,by trivial,M6.mF _,by omega,by omega,by omega,by rw[<-aFG];exact aTN⟩,<-aFG];rfl
def aJ:dK:=orc3 (Fl gW .u64) (pI .u64) (pI .u64) sp
theorem fnok:mZ prog E 266 f266 aF:=xC sT mixed (mW _ _ rfl rfl (nG qM.ok (nG Jp.ok yQ)) (aA Bt.ok (aA bAQ.ok (aA PSum.ok (aA oB.aEQ aD)))) (oR)) func266 rfl rfl rfl rfl rfl
theorem ok:qZ prog base.glob 266 aJ:=fnok.zR rfl spec
end Lo
namespace Ss
def E:Env:={ ({ base with C:=sO [(264,Jq.aJ),(265,Iw.aJ),(266,Lo.aJ)] (callsOf []),ioF:=Qc [(264,Jq.aJ),(265,Iw.aJ),(266,Lo.aJ)],n0:=1,io:=[0] })with nt:=36,own:=[],keep:=fun k=>(tlook [] k).getD [],cut:=tlook [(3,[0,1,2])] }
def aF:=bd f260
theorem aX:Nk E aF:=nk
def J3(a:List Int)(b:Nat)(c:Nat) d f:=mU E f260 aF 3 [(A.any,some { e:=(22:Nat),cont:=zO.ints u64 a }),(A.v (V.one (L.view 0 b c)),none),iZ d,iZ f]
theorem start al ao an b c:aI E f260 aF [D.io gW u64 al ao an,D.s (ints u64 b),D.s (ints u64 c)]=aB (decide ((b.length:Int)<(c.length:Int))) (Ss.J3 al ao an c b) (Ss.J3 al ao an b c):=eJ aX
theorem iL a b c d e:J3 a b c d e=letI B:=d.length+e.length;letI A:=some [D.io 22 u64 (M6.qT a.length (M6.val d*M6.val e)) 0 0];aB (decide ((e.length:Int)<(40:Int))) (aO (M6.dJ a/\b=0/\c=a.length/\M6.dJ d/\M6.dJ e/\a.length=d.length+e.length/\a.length<=1099511627776/\M6.val a=0) A) (aB (decide (i64.wrap ((2:Int)*(e.length:Int))<=(d.length:Int))) (aO (M6.dJ a/\b=0/\c=a.length/\M6.cV d/\M6.cV e/\a.length=d.length+e.length/\a.length<=549755813888/\M6.val a=0/\0<e.length/\(2:Nat)*e.length<=d.length/\oB.less B) A) (aO (M6.dJ a/\b=0/\c=a.length/\M6.cV d/\M6.cV e/\a.length=d.length+e.length/\a.length<=274877906944/\M6.val a=0/\4<=e.length/\e.length<=d.length/\oB.less B) A)):=cJ aX
def sp(x:List Int×Nat×Nat)(a b:List Int):Prop×List D:=(M6.dJ x.1/\x.2.1=0/\x.2.2=x.1.length/\M6.cV a/\M6.cV b/\x.1.length=a.length+b.length/\x.1.length<=274877906944/\M6.val x.1=0/\oB.less (a.length+b.length),
 [.io gW .u64 (M6.qT x.1.length (M6.val a*M6.val b)) 0 0])
theorem J{z a b:List Int}(hd:M6.dJ z)(ha:M6.cV a)(hb:M6.cV b)(hl:z.length=a.length+b.length)(hN:z.length<=274877906944)(hv:M6.val z=0)(hc:oB.less (a.length+b.length))(aWI:b.length<=a.length) :
  J3 z 0 z.length a b=some [.io gW .u64 (M6.qT z.length (M6.val a*M6.val b)) 0 0]:=by
 have w:i64.wrap (2*(b.length:Int))=((2*b.length:Nat):Int):=by rw[wrap_i64];omega
 rw[iL,w]
 by_cases h1:b.length<40
 ·rw[aQ,gP ⟨hd,rfl,rfl,ha.lM,hb.lM,hl,by omega,hv⟩]
 ·rw[aL]
  by_cases h2:2*b.length<=a.length
  ·rw[aQ,gP ⟨hd,rfl,rfl,ha,hb,hl,by omega,hv,by omega,h2,hc⟩]
  ·rw[aL,gP ⟨hd,rfl,rfl,ha,hb,hl,by omega,hv,by omega,aWI,hc⟩]
theorem spec(x:List Int×Nat×Nat)(a b:List Int)(h:(sp x a b).1):aI E f260 aF [(Fl gW .u64).put x,(pI .u64).put a,(pI .u64).put b]=some (sp x a b).2/\∃rs nV,(sp x a b).2=rs ++ [.io gW .u64 nV 0 0]/\nV.length=x.1.length:=by
 obtain⟨xl,xo,xn⟩:=x;obtain⟨hd,ho,hn,ha,hb,hl,hN,hv,hc⟩:=h;simp only at hd ho hn hl hN hv;subst ho;subst hn;refine⟨(start xl 0 xl.length a b).trans ?_,[],_,rfl,M6.iW ?_⟩
 ·by_cases kD:a.length<b.length
  ·rw[aQ,J hd hb ha (by omega) hN hv (by rw[cES];exact hc) (by omega),cDR];rfl
  ·rw[aL,J hd ha hb hl hN hv hc (by omega)];rfl
 ·show _<18446744073709551616^xl.length;rw[hl,cDU];exact cGX (M6.dW ha.lM) (M6.dW hb.lM)
def aJ:dK:=orc3 (Fl gW .u64) (pI .u64) (pI .u64) sp
theorem fnok:mZ prog E 260 f260 aF:=xC sT mixed (mW _ _ rfl rfl (nG Jq.ok (nG Iw.ok (nG Lo.ok yQ))) aD (oR)) func260 rfl rfl rfl rfl rfl
theorem ok:qZ prog base.glob 260 aJ:=fnok.zR rfl spec
end Ss
namespace Iv
def E:Env:={ ({ base with n0:=1,io:=[0] })with nt:=22,own:=[],keep:=fun k=>(tlook [(2,[0,3])] k).getD [],cut:=tlook [] }
def aF:=bd f261
theorem aX:Nk E aF:=nk
def L2(a:List Int)(b:Nat)(c:Nat) d:=tM E f261 aF 2 [(A.any,some { e:=(22:Nat),cont:=zO.ints u64 a }),(A.v (V.one (L.view 0 b c)),none),cA d]
theorem start al ao an:aI E f261 aF [D.io gW u64 al ao an]=Iv.L2 al ao an (an:Int):=eJ aX
theorem mK a b c d:L2 a b c d=aB (decide (0<d)) (if 0<=i64.wrap (d-1)/\i64.wrap (d-1)<(c:Int)then aB (a.getD (b+(i64.wrap (d-1)).toNat) 0==(0:Int)) (Iv.L2 a b c (i64.wrap (d-1))) (if(0:Int)<=(0:Int)/\0<=d/\d<=d/\d<=(c:Int)then some [D.back 0 (b+0) (d.toNat-0),D.io 22 u64 a 0 0]else none)else none) (if(0:Int)<=(0:Int)/\0<=d/\d<=d/\d<=(c:Int)then some [D.back 0 (b+0) (d.toNat-0),D.io 22 u64 a 0 0]else none):=lJ aX
def sp(x:List Int×Nat×Nat):Prop×List D:=(M6.dJ x.1/\x.2.1=0/\x.2.2=x.1.length/\x.1.length<=1099511627776,[.back 0 0 (M6.dg (M6.val x.1)).length,.io gW .u64 x.1 0 0])
theorem L{xs:List Int}(hd:M6.dJ xs)(hl:xs.length<=4398046511104):∀n:Nat,n<=xs.length->L2 xs 0 xs.length n=some [.back 0 0 (M6.dg (M6.val (xs.take n))).length,.io gW .u64 xs 0 0]
 |0,h=>by
  rw[mK,aL,aW];simp[M6.val,M6.cT]
 |n+1,h=>by
  rw[mK];have e:i64.wrap (((n+1:Nat):Int)-1)=(n:Int):=by rw[wrap_i64];omega
  rw[e,aQ,aW,cCQ,bYV]
  by_cases hz:xs.getD n 0=0
  ·rw[cD hz,L hd hl n (by omega),M6.nJ (by omega),hz];simp
  ·rw[bJ hz,aW,cCQ];have:M6.cV (xs.take (n+1)):=M6.Hp (hd.take _) fun d hg=>by
    rw[M6.getLast_take (by omega)]at hg;cases hg;exact hz
   have hlen:(xs.take (n+1)).length=n+1:=by rw[cBJ];omega
   rw[<-this,hlen];rfl
theorem spec(x:List Int×Nat×Nat)(h:(sp x).1):aI E f261 aF [(Fl gW .u64).put x]=some (sp x).2/\∃rs nV,(sp x).2=rs ++ [.io gW .u64 nV 0 0]/\nV.length=x.1.length:=by
 obtain⟨xl,xo,xn⟩:=x;obtain⟨hd,ho,hn,hl⟩:=h;simp only at hd ho hn hl;subst ho;subst hn;refine⟨(start xl 0 xl.length).trans ?_,[_],xl,rfl,rfl⟩;rw[L hd (by omega) xl.length (bYT _),cFF];rfl
def aJ:dK:=orc1 (Fl gW .u64) sp
theorem fnok:mZ prog E 261 f261 aF:=xC sT mixed (mV _ rfl aD (oR)) func261 rfl rfl rfl rfl rfl
theorem ok:qZ prog base.glob 261 aJ:=fnok.qB rfl spec
end Iv
namespace Pf
def E:Env:={ ({ base with C:=sO [(260,Ss.aJ),(261,Iv.aJ)] (callsOf []),ioF:=Qc [(260,Ss.aJ),(261,Iv.aJ)] })with nt:=18,own:=[17],keep:=fun k=>(tlook [] k).getD [],cut:=tlook [] }
def aF:=bd f253
theorem aX:Nk E aF:=nk
theorem start a b:aI E f253 aF [D.s (ints u64 a),D.s (ints u64 b)]=letI F:=(a.length:Int);letI G:=F+(b.length:Int);letI C:=i64.wrap G;letI A:=cAW C.toNat (0:Int);letI B:=M6.qT A.length (M6.val a*M6.val b);if 0<=i64.wrap G/\i64.wrap G<=i64.wrap G/\i64.wrap G<=8796093022208 then aO (M6.dJ A/\(0:Nat)=(0:Nat)/\C.toNat=A.length/\M6.cV a/\M6.cV b/\A.length=a.length+b.length/\A.length<=274877906944/\M6.val A=0/\oB.less (a.length+b.length)) (aO (M6.dJ B/\(0:Nat)=(0:Nat)/\C.toNat=B.length/\B.length<=1099511627776) (some [D.own 22 u64 (cHY (M6.dg (M6.val B)).length B)]))else none:=eJ aX
theorem eval{a b:List Int}(ha:M6.cV a)(hb:M6.cV b)(hN:a.length+b.length<=274877906944)(hc:oB.less (a.length+b.length)):aI E f253 aF [(pI .u64).put a,(pI .u64).put b]=some [.own gW .u64 (M6.dg (M6.val a*M6.val b))]:=by
 refine(start a b).trans ?_;have w:i64.wrap ((a.length:Int)+(b.length:Int))=((a.length+b.length:Nat):Int):=by rw[wrap_i64];omega
 have aTN:M6.val a*M6.val b<18446744073709551616^(a.length+b.length):=by rw[cDU];exact cGX (M6.dW ha.lM) (M6.dW hb.lM)
 rw[w,aW];simp only[cCQ,cMC];rw[gP ⟨M6.lS _,by trivial,by trivial,ha,hb,by trivial,hN,M6.kR _,hc⟩,gP ⟨M6.mT,by trivial,(M6.iW aTN).symm,by rw[M6.iW aTN];omega⟩,M6.mS,M6.aOE]
theorem fnok:uB prog E 253 f253 aF:=aID sT mixed (mW _ _ rfl rfl (nG Ss.ok (nG Iv.ok yQ)) aD (oR)) func253 rfl rfl rfl
theorem all(n:Nat)(hn:n<=274877906944):oB.less (n+1):=by
 induction n with
 |zero =>
  intro a b ha hb hl;refine fn_contract fnok.ty fnok.calls fnok.mix fnok.fnc fnok.body fnok.nt fnok.io (by exact cAR rfl) (eval ha hb (by omega) fun c d _ _ h=>by omega)
 |succ n ih =>
  intro a b ha hb hl;have ih:=ih (by omega);refine fn_contract fnok.ty fnok.calls fnok.mix fnok.fnc fnok.body fnok.nt fnok.io (by exact cAR rfl) (eval ha hb (by omega) fun c d hc hd h=>ih c d hc hd (by omega))
def sp(a b:List Int):Prop×List D:=(M6.cV a/\M6.cV b/\a.length+b.length<=274877906944,[.own gW .u64 (M6.dg (M6.val a*M6.val b))])
theorem spec:hI E f253 aF (pI .u64) (pI .u64) sp:=by
 rintro a b ⟨ha,hb,hN⟩;exact eval ha hb hN fun c d hc hd h=>all (a.length+b.length) hN c d hc hd (by omega)
def aJ:dK:=orc2 (pI .u64) (pI .u64) sp
theorem ok:lO prog base.glob 253 aJ:=fnok.nF rfl spec
end Pf
namespace aQB
def E:=mE [(144,iB.aJ),(253,Pf.aJ),(252,oB.aJ)] 20 [17] [] []
def aF:=bd f233
theorem aX:Nk E aF:=nk
theorem start a b:aI E f233 aF [D.s (ints u64 a),D.s (ints u64 b)]=letI A:=some [D.s (sc (slice none 0 0)),D.s (sc (int i64 2))];aO (a.length<=1099511627776) (aB (!iB.pT a) A (aO (b.length<=1099511627776) (aB (!iB.pT b) A (aO (M6.cV a/\M6.cV b/\a.length+b.length<=274877906944) (aC (M6.dg (M6.val a*M6.val b)) fun c=>aO True (aC (bif oB.Lw c then c else []) fun d=>aC (bif oB.Lw c then(0:Int)else(5:Int)) fun e=>some [D.s (ints u64 d),D.s (sc (int i64 e))])))))):=eJ aX
def sp(a b:List Int):Prop×List D:=(M6.cV a/\M6.cV b/\a.length<=8192/\b.length<=8192,[.s (.ints .u64 (bif cU.nL (M6.val a*M6.val b)then M6.dg (M6.val a*M6.val b)else [])),.s (.sc (.int .i64 (bif cU.nL (M6.val a*M6.val b)then 0 else 5)))])
theorem spec:hI E f233 aF (pI .u64) (pI .u64) sp:=by
 rintro a b ⟨ha,hb,h1,h2⟩;refine(start a b).trans ?_;simp only[aH];rw[gP,gP,iB.oJ ha h1,iB.oJ hb h2,cAT,bF,bF,gP ⟨ha,hb,by omega⟩,gP trivial];rfl
def aJ:dK:=orc2 (pI .u64) (pI .u64) sp
theorem ok:OK 233 aJ:=(fJ E aF (aA iB.ok (aA Pf.ok (aA oB.ok aD))) func233).nF rfl spec
end aQB
namespace aJC
def E:=mE [(96,fW.aJ),(233,aQB.aJ),(99,By.aJ)] 35 [32] [(3,[2,3,4])] [3]
def aF:=bd f200
theorem aX:Nk E aF:=nk
def J3 a b c d e:=mU E f200 aF 3 [dR 0 27 [cX a,gJ b],dR 1 27 [cX c,gJ d],dR 2 27 [cX e,sc (slice none 0 0)]]
theorem start a b c d:aI E f200 aF [D.agg [sc (bool a),ints u64 b],D.agg [sc (bool c),ints u64 d]]=letI A:=some [D.agg [sc (bool false),sc (slice none 0 0)],D.s (sc (int i64 2))];aO (b.length<=1099511627776) (aB (!fW.oN (a,b)) A (aO (d.length<=1099511627776) (aB (!fW.oN (c,d)) A (aJC.J3 a b c d false)))):=eJ aX
theorem iL a b c d e:J3 a b c d e=letI F:=M6.val b*M6.val d;letI B:=bif cU.nL F then(0:Int)else(5:Int);letI A:=bif cU.nL F then M6.dg F else [];letI C:=bif B==0 then zs (a !=c) (M6.val A)else(0:Int);aO (M6.cV b/\M6.cV d/\b.length<=8192/\d.length<=8192) (aO (M6.cV A/\A.length<=1099511627776) (some [D.agg [sc (bool (isNeg C)),ints u64 (M6.dg C.natAbs)],D.s (sc (int i64 B))])):=cJ aX
def sp(x y:Bool×List Int):Prop×List D:=(gY x/\gY y,wE (fit (wv x*wv y).natAbs) (wv x*wv y))
theorem spec:hI E f200 aF oZ oZ sp:=by
 rintro x y ⟨hx,hy⟩;refine(start x.1 x.2 y.1 y.2).trans ?_;have l1:=hx.len;have l2:=hy.len;have f1:=fW.lK hx;have f2:=fW.lK hy;have hs:wv x*wv y=zs (x.1 !=y.1) (M6.val x.2*M6.val y.2):=by
  unfold wv zs;cases x.1 <;> cases y.1 <;> simp[cID,Int.mul_neg]
 rw[gP,f1,cAT,bF,gP,f2,cAT,bF,iL,gP ⟨hx.1,hy.1,l1,l2⟩,gP (Lh (fun h=>by rw[show cU.nL _=_ from Cs]at h;exact yR h)),Kk,show cU.nL _=_ from Cs];unfold sp
 try dsimp only
 rw[hs,mB]
def aJ:dK:=orc2 oZ oZ sp
theorem ok:OK 200 aJ:=(fJ E aF (aA fW.ok (aA aQB.ok (aA By.ok aD))) func200).nF rfl spec
end aJC
namespace eR
def E:=mE [(45,mL.aJ),(200,aJC.aJ),(50,jQ.aJ)] 38 [22,35] [(3,[2,3,4])] [3]
def aF:=bd f155
theorem aX:Nk E aF:=nk
def J3 a b c d e f g h:=mU E f155 aF 3 [dR 0 29 [cX a,gJ b,dC c],dR 1 29 [cX d,gJ e,dC f],dR 2 29 [cX g,sc (slice none 0 0),dC h]]
theorem start a b c d e f:aI E f155 aF [D.agg [sc (bool a),ints u64 b,sc (int i64 c)],D.agg [sc (bool d),ints u64 e,sc (int i64 f)]]=aO (aR (a,b,c)) (aO (aR (d,e,f)) (eR.J3 a b c d e f false 0)):=eJ aX
theorem iL a b c d e f g h:J3 a b c d e f g h=letI F:=wv (a,b)*wv (d,e);letI C:=i64.wrap (c+f);letI B:=bif fit F.natAbs then wv (a,b)*wv (d,e)else(0:Int);aO (gY (a,b)/\gY (d,e)) (aC (isNeg B) fun i=>aC (M6.dg B.natAbs) fun j=>letI A:=bif iF (wv (i,j)) C then aN (wv (i,j)) C else((0:Int),(0:Int));aC (bif fit F.natAbs then(0:Int)else(5:Int)) fun k=>aB (k !=0) (some [D.agg [sc (bool false),sc (slice none 0 0),sc (int i64 0)],D.s (sc (int i64 k))]) (aO (gY (i,j)/\(-9223372036854775808:Int)<=i64.wrap (c+f)/\i64.wrap (c+f)<9223372036854775808) (aC (isNeg A.fst) fun l=>aC (M6.dg A.fst.natAbs) fun m=>aC A.snd fun n=>aC (bif iF (wv (i,j)) C then(0:Int)else(5:Int)) fun o=>some [D.agg [sc (bool l),ints u64 m,sc (int i64 n)],D.s (sc (int i64 o))]))):=cJ aX
def mJ(p q:Int×Int):Bool:=fit (p.1*q.1).natAbs&&iF (p.1*q.1) (p.2+q.2)
def gT(p q:Int×Int):Int×Int:=aN (p.1*q.1) (p.2+q.2)
def sp(x y:gQ):Prop×List D:=(aR x/\aR y,dE (mJ (dv x) (dv y)) (gT (dv x) (dv y)))
theorem spec:Qx E f155 aF jO jO sp:=by
 rintro x y ⟨hx,hy⟩;have ex:=hx.2.1;have ey:=hy.2.1;have s:=start x.1 x.2.1 x.2.2 y.1 y.2.1 y.2.2;have w:i64.wrap (x.2.2+y.2.2)=x.2.2+y.2.2:=wrap_i64;rw[gP hx,gP hy,iL]at s;simp only[aH]at s;have hz:wv (x.1,x.2.1)*wv (y.1,y.2.1)=(dv x).1*(dv y).1:=rfl;rw[gP ⟨hx.Ez,hy.Ez⟩,hz]at s;have h2:x.2.2+y.2.2=(dv x).2+(dv y).2:=rfl;unfold sp mJ gT
 try dsimp only
 cases hf:fit ((dv x).1*(dv y).1).natAbs with
 |false =>
  rw[hf]at s;rw[Bool.false_and];refine⟨_,s,jQ.tK _⟩
 |true =>
  rw[hf,cond_true,cond_true,gF rfl,w,gP ⟨gI (yR hf),by omega,by omega⟩,nW,h2]at s;rw[cBV];exact⟨_,s,iQ.refl _⟩
def aJ:dK:=orc2 jO jO sp
theorem ok:OK 155 aJ:=(fJ E aF (aA mL.ok (aA aJC.ok (aA jQ.ok aD))) func155).aQO rfl spec
end eR
namespace Ce
def E:=mE [] 9 [] [] []
def aF:=bd f239
theorem aX:Nk E aF:=nk
theorem start a:aI E f239 aF [D.s (sc (int i64 a))]=aB (decide (1<=a)) (some [D.s (sc (bool (decide (a<=70000))))]) (some [D.s (sc (bool false))]):=eJ aX
def sp(p:Int):Prop×List D:=(True,[.s (.sc (.bool (decide (1<=p)&&decide (p<=70000))))])
theorem spec:jL E f239 aF (pN .i64) sp:=by
 intro p h;refine(start p).trans ?_;unfold sp aB;cases (decide ((1:Int)<=p)) <;> cases (decide (p<=(70000:Int))) <;> rfl
def aJ:dK:=orc1 (pN .i64) sp
theorem ok:OK 239 aJ:=(fJ E aF aD func239).qB rfl spec
end Ce
namespace cP
def E:=mE [(239,Ce.aJ),(45,mL.aJ),(46,nA.aJ),(106,tA.aJ),(98,lC.aJ),(151,Bs.aJ),(95,oY.aJ),(100,uY.aJ),(240,cS.aJ)] 122 [119] [(9,[2,3,4,5,8]),(15,[2,3,4,5,8,10,13]),(16,[2,3,4,5,8,10,16])] [9,15,16]
def aF:=bd f210
theorem aX:Nk E aF:=nk
def J9 a b c d e f g h i j:=mU E f210 aF 9 [cA a,Jv b,dR 2 29 [cX c,gJ d,dC e],dR 3 29 [cX f,gJ g,dC h],dR 4 29 [cX i,sc (slice none 0 0),dC j]]
def aKB a b c d e f g h i j k l:=mU E f210 aF 15 [cA a,Jv b,dR 2 29 [cX c,gJ d,dC e],dR 3 29 [cX f,gJ g,dC h],dR 4 29 [cX i,sc (slice none 0 0),dC j],cA k,iZ l]
def aUT a b c d e f g h i j k l m:=mU E f210 aF 16 [cA a,Jv b,dR 2 29 [cX c,gJ d,dC e],dR 3 29 [cX f,gJ g,dC h],dR 4 29 [cX i,sc (slice none 0 0),dC j],cA k,dR 6 27 [cX l,gJ m]]
theorem start a b e f g h c d:aI E f210 aF [D.agg [sc (bool a),ints u64 b,sc (int i64 e)],D.agg [sc (bool f),ints u64 g,sc (int i64 h)],D.s (sc (int i64 c)),D.s (sc (bool d))]=letI F:=int i64 0;letI C:=bool false;letI B:=slice none 0 0;letI A:=some [D.agg [sc C,sc B,sc F],D.s (sc (int i64 5))];aO True (aC (decide (1<=c)&&decide (c<=70000)) fun i=>aB (!i) (some [D.agg [sc C,sc B,sc F],D.s (sc (int i64 1))]) (aO (aR (a,b,e)) (aO (aR (f,g,h)) (aO True (aC ((g.length:Int)==(0:Int)) fun j=>aB j (some [D.agg [sc C,sc B,sc F],D.s (sc (int i64 4))]) (aB (decide (4096<(b.length:Int))) A (aB (decide (4096<(g.length:Int))) A (cP.J9 c d a b e f g h false 0)))))))):=eJ aX
theorem Zs a b c d e f g h i j:J9 a b c d e f g h i j=letI A:=i64.wrap (i64.wrap (a+2)+(↑(bl (M6.val g)):Int))-(↑(bl (M6.val d)):Int);aO (M6.dJ g/\g.length<=1099511627776) (aO (M6.dJ d/\d.length<=1099511627776) (aO (M6.cV d/\d.length<=8192/\(0<=if i64.wrap A>(0:Int)then i64.wrap A else(0:Int))/\(if i64.wrap A>(0:Int)then i64.wrap A else(0:Int))<4611686018427387904) (aC (bif lC.kG (M6.val d) (if i64.wrap A>(0:Int)then i64.wrap A else(0:Int)).toNat then M6.dg (M6.val d*(2:Nat)^(if i64.wrap A>(0:Int)then i64.wrap A else(0:Int)).toNat)else []) fun k=>aO (M6.cV k/\k.length<=8192/\M6.cV g/\1<=g.length/\g.length<=8192) (aC (M6.dg (M6.val k/M6.val g)) fun l=>aC (M6.dg (M6.val k%M6.val g)) fun m=>aO (M6.cV l/\l.length<=8192/\(0:Int)<=(1:Int)/\(1:Int)<(4611686018427387904:Int)) (aC (bif lC.kG (M6.val l) 1 then M6.dg (M6.val l*2)else []) fun n=>letI B:=M6.val n+M6.val (M6.dg 1);aB (decide (0<(m.length:Int))) (aO ((0:Int)<=(1:Int)/\(1:Int)<(18446744073709551616:Int)) (aO (M6.cV n/\M6.cV (M6.dg 1)/\n.length<=8192/\(M6.dg 1).length<=8192) (aC (bif cU.nL B then M6.dg B else []) fun o=>cP.aKB a b c d e f g h i j (if i64.wrap A>(0:Int)then i64.wrap A else(0:Int)) o))) (cP.aKB a b c d e f g h i j (if i64.wrap A>(0:Int)then i64.wrap A else(0:Int)) n)))))):=cJ aX
theorem Pm a b c d e f g h i j k l:aKB a b c d e f g h i j k l=aB (c !=f) (cP.aUT a b c d e f g h i j k (decide (0<(l.length:Int))) l) (cP.aUT a b c d e f g h i j k false l):=cJ aX
theorem aDB a b c d e f g h i j k l m:aUT a b c d e f g h i j k l m=letI C:=i64.wrap (i64.wrap (e-h)-k)-1;letI A:=cS.oM b (wv (l,m)) (i64.wrap C) a;letI B:=bif iF A.fst A.snd then aN A.fst A.snd else((0:Int),(0:Int));aO (gY (l,m)/\((-4611686018427387904:Int)<=i64.wrap C/\i64.wrap C<4611686018427387904)/\1<=a/\a<=70000) (aC (isNeg B.fst) fun n=>aC (M6.dg B.fst.natAbs) fun o=>aC B.snd fun p=>aC (bif iF A.fst A.snd then(0:Int)else(5:Int)) fun q=>some [D.agg [sc (bool n),ints u64 o,sc (int i64 p)],D.s (sc (int i64 q))]):=cJ aX
def Dl(p:Int)(a b:Nat):Nat:=(p+2+(bl b:Nat)-(bl a:Nat)).toNat
def Xg(a b s:Nat):Nat:=a*2^s/b*2+if a*2^s%b=0 then 0 else 1
def bDB(p:Int)(x y:Int×Int):Int×Int:=(zs (isNeg x.1 !=isNeg y.1) (Xg x.1.natAbs y.1.natAbs (Dl p x.1.natAbs y.1.natAbs)),x.2-y.2-(Dl p x.1.natAbs y.1.natAbs:Nat)-1)
def vK(up:Bool)(p:Int)(x y:Int×Int):Int×Int:=cS.oM up (bDB p x y).1 (bDB p x y).2 p
def sp(x y:gQ)(p:Int)(up:Bool):Prop×List D:=(aR x/\aR y/\(dv y).1≠0/\x.2.1.length<=4096/\y.2.1.length<=4096/\1<=p/\p<=70000,dE (iF (vK up p (dv x) (dv y)).1 (vK up p (dv x) (dv y)).2) (aN (vK up p (dv x) (dv y)).1 (vK up p (dv x) (dv y)).2))
theorem aRA(n:Bool)(q:Nat):wv (n&&decide (0<((M6.dg q).length:Int)),M6.dg q)=zs n q/\(bl q<=524288->gY (n&&decide (0<((M6.dg q).length:Int)),M6.dg q)):=by
 have hz:=M6.jE (n:=q)
 by_cases h:q=0
 ·rw[decide_eq_false (by have:=hz.2 h;omega),Bool.and_false,h];refine⟨?_,fun _=>⟨M6.aZ _,fun hf=>absurd hf (by simp),by rw[M6.cT];simp⟩⟩;unfold wv zs;rw[M6.bZ];cases n <;> rfl
 ·rw[decide_eq_true (by have:=fun hl=>h (hz.1 hl);omega),Bool.and_true];refine⟨?_,fun hb=>⟨M6.aZ _,fun _=>by rw[M6.bZ];exact h,gA (k:=8192) (by omega)⟩⟩;unfold wv;rw[M6.bZ]
theorem vV{a s n:Nat}(h:a≠0->bl a+s<=n):bl (a*2^s)<=n:=by
 by_cases h0:a=0
 ·subst h0;rw[Nat.zero_mul];exact bZP (by decide) (cEU n)
 ·rw[cDR,zD h0];have:=h h0;omega
theorem spec:Pd E f210 aF jO jO (pN .i64) pB sp:=by
 rintro x y p up ⟨hx,hy,h0,bUW,bLJ,Bd,wZ⟩;have ex:=hx.2.1;have ey:=hy.2.1;refine(start x.1 x.2.1 x.2.2 y.1 y.2.1 y.2.2 p up).trans ?_;have hv0:M6.val y.2.1≠0:=fun h=>h0 (Ey.2 h)
 have bBT:y.2.1.length≠0:=fun h=>hv0 ((M6.eF hy.Jy).1 h)
 have bx:=zE hx.Jy.lM bUW;have bYH:=zE hy.Jy.lM bLJ
 have ax:(dv x).1.natAbs=M6.val x.2.1:=iT (x.1,x.2.1);have ay:(dv y).1.natAbs=M6.val y.2.1:=iT (y.1,y.2.1);have sx:isNeg (dv x).1=x.1:=hx.Ez.cells.1;have sy:isNeg (dv y).1=y.1:=hy.Ez.cells.1;have w1:i64.wrap (i64.wrap (i64.wrap (p+2)+(bl (M6.val y.2.1):Int))-(bl (M6.val x.2.1):Int))=p+2+(bl (M6.val y.2.1):Int)-(bl (M6.val x.2.1):Int):=by
  rw[wrap_i64 (n:=p+2),wrap_i64 (n:=p+2+(bl (M6.val y.2.1):Int)) (by omega) (by omega),wrap_i64]
 simp only[aH];rw[gP trivial,decide_eq_true Bd,decide_eq_true wZ,cBV,cAT,bF,gP hx,gP hy,gP trivial,bJ,aL,aL,Zs,w1];unfold sp vK bDB
 try dsimp only
 rw[ax,ay,sx,sy];have hs:(if p+2+(bl (M6.val y.2.1):Int)-(bl (M6.val x.2.1):Int)>0 then p+2+(bl (M6.val y.2.1):Int)-(bl (M6.val x.2.1):Int)else 0)=((Dl p (M6.val x.2.1) (M6.val y.2.1):Nat):Int):=by
  unfold Dl;split <;> omega
 rw[hs];have bUE:M6.val x.2.1≠0->bl (M6.val x.2.1)+Dl p (M6.val x.2.1) (M6.val y.2.1)<=332200:=fun _=>by unfold Dl;omega
 have bKQ:Dl p (M6.val x.2.1) (M6.val y.2.1)<=332200:=by unfold Dl;omega
 generalize Dl p (M6.val x.2.1) (M6.val y.2.1)=s at *;have rW:=vV bUE;have hX:lC.kG (M6.val x.2.1) s=true:=by rw[Bz.Ko];exact decide_eq_true (by omega)
 have lX:=gA (n:=M6.val x.2.1*2^s) (k:=8192) (by omega);have Pu:bl (M6.val x.2.1*2^s/M6.val y.2.1)<=332200:=bZP (gM (cJD _ _)) rW;have lQ:=gA (n:=M6.val x.2.1*2^s/M6.val y.2.1) (k:=8192) (by omega);have hQ:∀q,bl q<=332200->lC.kG q 1=true:=fun q hq=>by rw[Bz.Ko];exact decide_eq_true (by have:=vV (a:=q) (s:=1) (n:=332201) (fun _=>by omega);omega)
 rw[gP ⟨hy.Jy.lM,by omega⟩,gP ⟨hx.Jy.lM,by omega⟩,gP ⟨hx.Jy,hx.len,by omega,by omega⟩,cCQ];simp only[aH];rw[hX,cond_true,gP ⟨M6.aZ _,lX,hy.Jy,by omega,hy.len⟩,M6.bZ,gP ⟨M6.aZ _,lQ,by omega,by omega⟩,M6.bZ];have bUF:decide (0<(((M6.dg (M6.val x.2.1*2^s%M6.val y.2.1)).length:Nat):Int))=decide (M6.val x.2.1*2^s%M6.val y.2.1≠0):=by
  have:=M6.jE (n:=M6.val x.2.1*2^s%M6.val y.2.1)
  by_cases h:M6.val x.2.1*2^s%M6.val y.2.1=0
  ·rw[decide_eq_false (by have:=this.2 h;omega),decide_eq_false (by omega)]
  ·rw[decide_eq_true (by have:=fun hl=>h (this.1 hl);omega),decide_eq_true h]
 rw[bUF];have j16:∀(bIT:Bool) (q:Nat),bl q<=332202->wv (bIT,M6.dg q)=zs (x.1 !=y.1) q->gY (bIT,M6.dg q)->aUT p up x.1 x.2.1 x.2.2 y.1 y.2.1 y.2.2 false 0 s bIT (M6.dg q)=some (dE (iF (cS.oM up (zs (x.1 !=y.1) q) (x.2.2-y.2.2-(s:Int)-1) p).1 (cS.oM up (zs (x.1 !=y.1) q) (x.2.2-y.2.2-(s:Int)-1) p).2) (aN (cS.oM up (zs (x.1 !=y.1) q) (x.2.2-y.2.2-(s:Int)-1) p).1 (cS.oM up (zs (x.1 !=y.1) q) (x.2.2-y.2.2-(s:Int)-1) p).2)):=by
  intro bIT q hq hw Pv;have w2:i64.wrap (i64.wrap (i64.wrap (x.2.2-y.2.2)-(s:Int))-1)=x.2.2-y.2.2-(s:Int)-1:=by
   rw[wrap_i64 (n:=x.2.2-y.2.2),wrap_i64 (n:=x.2.2-y.2.2-(s:Int)),wrap_i64]
  rw[aDB,w2,gP ⟨Pv,⟨by omega,by omega⟩,Bd,wZ⟩,hw];simp only[aH];rfl
 have j15:∀q,bl q<=332202->aKB p up x.1 x.2.1 x.2.2 y.1 y.2.1 y.2.2 false 0 s (M6.dg q)=some (dE (iF (cS.oM up (zs (x.1 !=y.1) q) (x.2.2-y.2.2-(s:Int)-1) p).1 (cS.oM up (zs (x.1 !=y.1) q) (x.2.2-y.2.2-(s:Int)-1) p).2) (aN (cS.oM up (zs (x.1 !=y.1) q) (x.2.2-y.2.2-(s:Int)-1) p).1 (cS.oM up (zs (x.1 !=y.1) q) (x.2.2-y.2.2-(s:Int)-1) p).2)):=by
  intro q hq;obtain⟨v1,v2⟩:=aRA (x.1 !=y.1) q;have v2:=v2 (by omega);rw[Pm];cases hn:x.1 !=y.1 with
  |true =>
   rw[hn]at v1 v2;rw[bT];have:=j16 _ q hq (by rw[hn];exact v1) v2;rw[hn]at this;exact this
  |false =>
   rw[hn]at v1 v2;rw[bF];have:=j16 _ q hq (by rw[hn];exact v1) v2;rw[hn]at this;exact this
 unfold Xg;generalize M6.val x.2.1*2^s/M6.val y.2.1=Q at *;have bWY:bl (Q*2)<=332201:=vV (s:=1) (fun _=>by omega);have bTD:=gA (n:=Q*2) (k:=8192) (by omega);have bWX:bl (Q*2+1)<=332202:=by
  rw[dG]at bWY ⊢;rw[cDS];have:=cBT (n:=332201) (show 0<2 by omega);omega
 have one:=gA (n:=1) (k:=1) (dG.2 (by omega))
 by_cases hr:M6.val x.2.1*2^s%M6.val y.2.1=0
 ·rw[aL,if_pos hr,hQ _ Pu,cond_true,j15 _ (by omega)];rfl
 ·have bSR:cU.nL (Q*2+1)=true:=by rw[show cU.nL _=_ from Cs];exact decide_eq_true (by omega)
  rw[aQ,if_neg hr,hQ _ Pu,cond_true,gP ⟨by omega,by omega⟩,gP ⟨M6.aZ _,M6.aZ _,bTD,by omega⟩,M6.bZ,M6.bZ,bSR,cond_true,j15 _ bWX];rfl
def aJ:dK:=orc4 jO jO (pN .i64) pB sp
theorem ok:OK 210 aJ:=(fJ E aF (aA Ce.ok (aA mL.ok (aA nA.ok (aA tA.ok (aA lC.ok (aA Bs.ok (aA oY.ok (aA uY.ok (aA cS.ok aD))))))))) func210).aME rfl spec
end cP
end W
namespace M
open Go AI W
def shD(up:Bool)(p:Int×Int)(n:Int):Int×Int:=aN (cS.oM up p.1 p.2 n).1 (cS.oM up p.1 p.2 n).2
def yD(up:Bool)(p:Int×Int)(n:Int):Bool:=iF (cS.oM up p.1 p.2 n).1 (cS.oM up p.1 p.2 n).2
theorem Oo{z:Int}{k:Nat}:((z/((2^k:Nat):Int):Int):Rat)*((2^k:Nat):Rat)<=(z:Rat)/\(z:Rat)<(((z/((2^k:Nat):Int):Int):Rat)+1)*((2^k:Nat):Rat):=by
 have hp:(0:Int)<((2^k:Nat):Int):=by have:=cBT (n:=k) (show 0<2 by omega);omega
 have h1:=Int.ediv_mul_le z (show((2^k:Nat):Int)≠0 by omega);have h2:=Int.lt_ediv_add_one_mul_self z hp;constructor
 ·have:(((z/((2^k:Nat):Int))*((2^k:Nat):Int):Int):Rat)<=(z:Rat):=Rat.intCast_le_intCast.2 h1;rwa [cKB,cKC]at this
 ·have:(z:Rat)<(((z/((2^k:Nat):Int)+1)*((2^k:Nat):Int):Int):Rat):=Rat.intCast_lt_intCast.2 h2;rwa [cKB,cKC,cLT]at this
theorem aGB(up:Bool)(z:Int)(k:Nat):(up=false->(kZ.qI up z k:Rat)*((2^k:Nat):Rat)<=(z:Rat)/\(z:Rat)<(kZ.qI up z k:Rat)*((2^k:Nat):Rat)+((2^k:Nat):Rat))/\(up=true->(z:Rat)<=(kZ.qI up z k:Rat)*((2^k:Nat):Rat)/\(kZ.qI up z k:Rat)*((2^k:Nat):Rat)<(z:Rat)+((2^k:Nat):Rat)):=by
 constructor
 ·rintro rfl;obtain⟨h1,h2⟩:=Oo (z:=z) (k:=k);unfold kZ.qI;rw[cond_false];generalize ((z/((2^k:Nat):Int):Int):Rat)=q at *;constructor <;> grind
 ·rintro rfl;obtain⟨h1,h2⟩:=Oo (z:=-z) (k:=k);unfold kZ.qI;rw[cond_true,cLS];rw[cLS]at h1 h2;generalize ((-z/((2^k:Nat):Int):Int):Rat)=q at *;constructor <;> grind
theorem pJ{p:Int×Int}(h:p.1≠0):R.pz (bB p)<=R.ab (R.qz p)/\R.ab (R.qz p)<R.pz (bB p+1):=by
 have hb:=qJ (n:=p.1.natAbs) (by omega);have h1:2^(bl p.1.natAbs-1)<=p.1.natAbs:=rN.1 (by omega);have h2:=wP p.1.natAbs;have e:R.ab (R.qz p)=(p.1.natAbs:Rat)*R.pz p.2:=by
  unfold R.qz;rw[R.fX,R.bP (cEA (R.dA p.2))];congr 1;unfold R.ab
  by_cases hz:0<=p.1
  ·rw[if_pos (by exact_mod_cast hz),<-cKC];congr 1;omega
  ·rw[if_neg (by intro hc;exact hz (by exact_mod_cast hc)),<-cKC,<-cLS];congr 1;omega
 have hp:=R.dA p.2;rw[e];unfold bB;constructor
 ·rw[show p.2+(bl p.1.natAbs:Int)-1=p.2+((bl p.1.natAbs-1:Nat):Int) by omega,R.dZ];have Yl:((2^(bl p.1.natAbs-1):Nat):Rat)<=(p.1.natAbs:Rat):=by exact_mod_cast h1
  have:=R.aE (cEA hp) (show 0<=(p.1.natAbs:Rat)-((2^(bl p.1.natAbs-1):Nat):Rat) by grind);grind
 ·rw[show p.2+(bl p.1.natAbs:Int)-1+1=p.2+(bl p.1.natAbs:Int) by omega,R.dZ];have aNY:(p.1.natAbs:Rat)<((2^bl p.1.natAbs:Nat):Rat):=by exact_mod_cast h2
  have:=cEK hp (show 0<((2^bl p.1.natAbs:Nat):Rat)-(p.1.natAbs:Rat) by grind);grind
theorem Hg(up:Bool)(p:Int×Int){n:Int}(aBM:1<=n):(up=false->R.qz (shD up p n)<=R.qz p/\R.qz p<=R.qz (shD up p n)+R.pz (1-n)*R.ab (R.qz p))/\(up=true->R.qz p<=R.qz (shD up p n)/\R.qz (shD up p n)<=R.qz p+R.pz (1-n)*R.ab (R.qz p)):=by
 have h0:0<=R.pz (1-n)*R.ab (R.qz p):=R.aE (cEA (R.dA _)) (R.aM _);unfold shD cS.oM;split
 ·have e:R.qz (aN p.1 p.2)=R.qz p:=nY p.1 p.2;dsimp only;rw[e];constructor <;> (intro _;constructor <;> grind)
 ·rename_i hn;obtain⟨k,hk⟩:=cDX (show 0<=(bl p.1.natAbs:Int)-n by omega);have aNE:p.1≠0:=by
   intro hz;rw[hz]at hn;have hb:bl (0:Int).natAbs=0:=rfl;rw[hb]at hn;omega
  obtain⟨c1,c2⟩:=aGB up p.1 k;dsimp only;rw[hk,cCQ,nY,R.dZ];have rU:=R.dA p.2;have ht:=(pJ aNE).1;have e2:R.pz p.2*((2^k:Nat):Rat)<=R.pz (1-n)*R.ab (R.qz p):=by
   have e3:R.pz p.2*((2^k:Nat):Rat)=R.pz (1-n)*R.pz (bB p):=by
    rw[<-R.dZ,<-R.iU];congr 1;unfold bB;omega
   rw[e3];have:=R.aE (cEA (R.dA (1-n))) (show 0<=R.ab (R.qz p)-R.pz (bB p) by grind);grind
  have eq:R.qz p=(p.1:Rat)*R.pz p.2:=rfl;generalize R.pz (1-n)*R.ab (R.qz p)=X at *;rw[eq];generalize (kZ.qI up p.1 k:Rat)=c at *;generalize ((2^k:Nat):Rat)=K at *;constructor
  ·intro hu;obtain⟨d1,d2⟩:=c1 hu;have m1:=R.aE (cEA rU) (show 0<=(p.1:Rat)-c*K by grind);have m2:=R.aE (cEA rU) (show 0<=c*K+K-(p.1:Rat) by grind);constructor <;> grind
  ·intro hu;obtain⟨d1,d2⟩:=c2 hu;have m1:=R.aE (cEA rU) (show 0<=c*K-(p.1:Rat) by grind);have m2:=R.aE (cEA rU) (show 0<=(p.1:Rat)+K-c*K by grind);constructor <;> grind
theorem aPP(n:Nat):bl (2^n)=n+1:=by
 have h1:=dG (n:=2^n) (k:=n+1);have h2:=rN (n:=2^n) (k:=n);have:2^n<2^(n+1):=cGC (by omega) (by omega);have:=h1.2 this;have:=h2.2 (bYT _);omega
theorem wO(z e:Int):bl (aN z e).1.natAbs<=bl z.natAbs:=gM (Mz z e)
theorem aCD(up:Bool)(z:Int)(k n:Nat)(h:bl z.natAbs<=n+k):bl (kZ.qI up z k).natAbs<=n+1:=by
 have hz:=dG.1 h;rw[cDU]at hz;have hp:=cBT (n:=k) (show 0<2 by omega);have hn:=cBT (n:=n) (show 0<2 by omega);refine dG.2 ?_;rw[cDS];have fl:∀w:Int,w.natAbs<2^n*2^k->(w/((2^k:Nat):Int)).natAbs<=2^n:=by
  intro w hw;have h1:=cHO w ((2^k:Nat):Int);have h2:=cHP w (show((2^k:Nat):Int)≠0 by omega);have h3:=cHQ w (show(0:Int)<((2^k:Nat):Int) by omega);have bBN:(w.natAbs:Int)<((2^n:Nat):Int)*((2^k:Nat):Int):=by exact_mod_cast hw
  generalize w/((2^k:Nat):Int)=q at *;generalize ((2^k:Nat):Int)=K at *;generalize hN:2^n=N at *
  by_cases hq:0<=q
  ·have:q<(N:Int):=by
    refine Int.not_le.1 fun hc=>?_
    have:=cNA hc (show 0<=K by omega);rw[cGL K (N:Int)]at this;omega
   omega
  ·have:-(N:Int)<=q:=by
    refine Int.not_lt.1 fun hc=>?_
    have:=cNA (show q<=-(N:Int)-1 by omega) (show 0<=K by omega);rw[Int.mul_sub,Int.mul_neg,Int.mul_one,cGL K (N:Int)]at this;omega
   omega
 unfold kZ.qI;cases up with
 |false =>
  rw[cond_false];have:=fl z hz;omega
 |true =>
  rw[cond_true,cFE];have:=fl (-z) (by rw[cFE];exact hz);omega
def bIV(p:Int×Int):Prop:=kE p/\p.2+(bl p.1.natAbs:Nat)<=1048000
theorem Rf{up:Bool}{p:Int×Int}{n:Int}(hp:bIV p)(hn:1<=n):yD up p n=true/\kE (shD up p n):=by
 obtain⟨⟨h1,h2,h3,h4⟩,h5⟩:=hp;unfold yD shD cS.oM;split
 ·dsimp only;have hi:iF p.1 p.2=true:=by
   unfold iF
   by_cases hz:p.1=0
   ·rw[decide_eq_true hz,cED]
   ·have ht:=Ah (n:=p.1.natAbs) (by have:=h4 hz;omega);rw[ht,decide_eq_false hz,cAU,decide_eq_true (show -1048576<=p.2+((0:Nat):Int) by omega),decide_eq_true (show p.2+((0:Nat):Int)<=1048576 by omega)];rfl
  exact⟨hi,gZ hi h1⟩
 ·rename_i hk;dsimp only;have hc:=kZ.aGC up p.1 ((bl p.1.natAbs:Int)-n).toNat;have bQG:=aCD up p.1 ((bl p.1.natAbs:Int)-n).toNat n.toNat (by omega);generalize kZ.qI up p.1 ((bl p.1.natAbs:Int)-n).toNat=c at *;have bWF:bl c.natAbs<=bl p.1.natAbs:=gM hc;have bMF:c≠0->tz c.natAbs<bl c.natAbs:=fun h=>Fb (by omega)
  have hi:iF c (p.2+((bl p.1.natAbs:Int)-n))=true:=by
   unfold iF
   by_cases hz:c=0
   ·rw[decide_eq_true hz,cED]
   ·have:=bMF hz;rw[decide_eq_false hz,cAU,decide_eq_true (show -1048576<=p.2+((bl p.1.natAbs:Int)-n)+(tz c.natAbs:Int) by omega),decide_eq_true (show p.2+((bl p.1.natAbs:Int)-n)+(tz c.natAbs:Int)<=1048576 by omega)];rfl
  exact⟨hi,gZ hi (bZP bWF h1)⟩
end M
namespace M
open Go AI W
theorem Tu{p q:Int×Int}(hp:kE p)(hq:kE q)(h:bQ.kT p q=true):kE (bQ.oA p q):=by
 unfold bQ.oA;split
 ·exact hq
 ·split
  ·exact hp
  ·rename_i h1 h2;unfold bQ.kT at h;rw[decide_eq_false h1,decide_eq_false h2,cAU,cAU,bYZ,bYZ,bYZ]at h;exact gZ h.2.2.2 (of_decide_eq_true h.2.2.1)
theorem kE.top{p:Int×Int}(h:kE p):-1048577<=bB p/\bB p<=1572864:=by
 obtain⟨h1,h2,_⟩:=h;unfold bB;omega
def aJI(p:Int×Int):Int×Int:=((p.1.natAbs:Nat),1-(bl p.1.natAbs:Nat))
theorem aLW{p:Int×Int}(h:kE p)(h0:p.1≠0):kE (aJI p):=by
 obtain⟨h1,h2,h3,h4⟩:=h;have:=h4 h0;unfold aJI;refine⟨by dsimp only;rw[cEJ];exact h1,by dsimp only;omega,fun h=>by dsimp only at h;omega,fun _=>by dsimp only;omega⟩
theorem Gc{p q:Int×Int}:eN p q=0↔R.qz p=R.qz q:=by
 obtain⟨h1,h2⟩:=Ln p q;have a:=R.Mp (p:=p) (q:=q) h1 h2;have b:=R.Mp (p:=q) (q:=p) h2 h1;unfold eN;rw[aUJ];constructor
 ·intro h;exact cMX (a.2 (Int.le_of_eq h)) (b.2 (Int.le_of_eq h.symm))
 ·intro h;exact Int.le_antisymm (a.1 (by rw[h];exact cFB)) (b.1 (by rw[h];exact cFB))
theorem Cz{p q:Int×Int}:eN p q<0↔R.qz p<R.qz q:=by
 have h1:=lN (p:=p) (q:=q);have h3:=Gc (p:=p) (q:=q);constructor
 ·intro h;have:=h1.1 (by omega);refine Rat.not_le.1 fun hn=>?_
  have:=h3.2 (cMX this hn);omega
 ·intro h;have a:=h1.2 (cEA h);have b:eN p q≠0:=fun hn=>Rat.lt_irrefl ((h3.1 hn)▸h)
  omega
theorem aLG{p q:Int×Int}(h:eN p q≠0):(bQ.oA q (-p.1,p.2)).1≠0:=by
 intro h0;have h1:=Tt q (-p.1,p.2);rw[oQ,R.oG h0]at h1;exact h (Gc.2 (by grind))
theorem Ci{p:Int×Int}(h:p.1=0):eN p (0,0)=0:=by
 rw[Gc,R.oG h,R.oG rfl]
theorem kE.Hr{p:Int×Int}(h:kE p):kE (-p.1,p.2):=by
 obtain⟨x1,x2,x3,x4⟩:=h;exact⟨by dsimp only;rw[cFE];exact x1,x2,fun h=>x3 (by dsimp only at h;omega),fun h=>by dsimp only at h ⊢;have:=x4 (by omega);omega⟩
theorem aR.Hw{x:gQ}(h:aR x)(hb:bl (dv x).1.natAbs<=262144):x.2.1.length<=4096:=by
 have e:M6.dg (dv x).1.natAbs=x.2.1:=h.Ez.cells.2;rw[<-e];exact gA (k:=4096) (by omega)
def Nc(p q:Int×Int):Int×Int:=bif decide (eN q p<0)then q else p
def Oa(p q:Int×Int):Int×Int:=bif decide (0<eN q p)then q else p
theorem aXY(p q:Int×Int):Nc p q=p\/Nc p q=q:=by unfold Nc;cases decide (eN q p<0);exact Or.inl rfl;exact Or.inr rfl
theorem aZN(p q:Int×Int):Oa p q=p\/Oa p q=q:=by unfold Oa;cases decide (0<eN q p);exact Or.inl rfl;exact Or.inr rfl
theorem aBG(p q:Int×Int):R.qz (Nc p q)<=R.qz p/\R.qz (Nc p q)<=R.qz q:=by
 unfold Nc
 by_cases h:eN q p<0
 ·rw[decide_eq_true h,cond_true];exact⟨cEA (Cz.1 h),cFB⟩
 ·rw[decide_eq_false h,cond_false];exact⟨cFB,Rat.not_lt.1 fun hn=>h (Cz.2 hn)⟩
theorem aBX(p q:Int×Int):R.qz p<=R.qz (Oa p q)/\R.qz q<=R.qz (Oa p q):=by
 unfold Oa
 by_cases h:0<eN q p
 ·rw[decide_eq_true h,cond_true];exact⟨cEA (yY.1 h),cFB⟩
 ·rw[decide_eq_false h,cond_false];exact⟨cFB,Rat.not_lt.1 fun hn=>h (yY.2 hn)⟩
end M
namespace W
open Go AI M
namespace Iu
def E:=mE [(158,Ki.aJ)] 14 [10] [] []
def aF:=bd f120
theorem aX:Nk E aF:=nk
theorem start a b c d e f:aI E f120 aF [D.agg [sc (bool a),ints u64 b,sc (int i64 c)],D.agg [sc (bool d),ints u64 e,sc (int i64 f)]]=aO (aR (a,b,c)/\aR (d,e,f)) (some [D.s (sc (int i64 (mG (bQ.nU (dv (a,b,c)) (dv (d,e,f))) (bQ.nT (dv (a,b,c)) (dv (d,e,f))))))]):=eJ aX
def sp(x y:gQ):Prop×List D:=(aR x/\aR y,[.s (.sc (.int .i64 (eN (dv x) (dv y))))])
theorem spec:hI E f120 aF jO jO sp:=by
 intro x y h;exact(start x.1 x.2.1 x.2.2 y.1 y.2.1 y.2.2).trans (gP h)
def aJ:dK:=orc2 jO jO sp
theorem ok:OK 120 aJ:=(fJ E aF (aA Ki.ok aD) func120).nF rfl spec
end Iu
namespace wF
def E:=mE [(45,mL.aJ),(120,Iu.aJ)] 19 [] [] []
def aF:=bd f67
theorem aX:Nk E aF:=nk
theorem start a b c d e f:aI E f67 aF [D.agg [sc (bool a),ints u64 b,sc (int i64 c),sc (bool d),ints u64 e,sc (int i64 f)]]=aO (aR (a,b,c)) (aO (aR (d,e,f)) (aO (aR (a,b,c)/\aR (d,e,f)) (some [D.s (sc (bool (decide (eN (dv (a,b,c)) (dv (d,e,f))<=0))))]))):=eJ aX
def sp(s:yA):Prop×List D:=(fA s,[.s (.sc (.bool true))])
theorem spec:jL E f67 aF zQ sp:=by
 rintro s ⟨h1,h2,h3⟩;refine(start s.1 s.2.1 s.2.2.1 s.2.2.2.1 s.2.2.2.2.1 s.2.2.2.2.2).trans ((gP h1).trans ((gP h2).trans ((gP ⟨h1,h2⟩).trans ?_)));show some [D.s (.sc (.bool (decide (eN (dv (iH s)) (dv (iI s))<=0))))]=_;rw[decide_eq_true h3];rfl
def aJ:dK:=orc1 zQ sp
theorem ok:OK 67 aJ:=(fJ E aF (aA mL.ok (aA Iu.ok aD)) func67).qB rfl spec
end wF
namespace aPY
def E:=mE [(97,Clone.aJ)] 10 [] [] []
def aF:=bd f171
theorem aX:Nk E aF:=nk
theorem start a b c:aI E f171 aF [D.agg [sc (bool a),ints u64 b,sc (int i64 c)]]=aO (b.length<=1099511627776) (some [D.agg [sc (bool a),ints u64 b,sc (int i64 c)]]):=eJ aX
def sp(x:gQ):Prop×List D:=(x.2.1.length<=1099511627776,[.agg [.sc (.bool x.1),.ints .u64 x.2.1,.sc (.int .i64 x.2.2)]])
theorem spec:jL E f171 aF jO sp:=by
 intro x h;exact(start x.1 x.2.1 x.2.2).trans (gP h)
def aJ:dK:=orc1 jO sp
theorem ok:OK 171 aJ:=(fJ E aF (aA Clone.ok aD) func171).qB rfl spec
end aPY
namespace aCY
def E:=mE [(171,aPY.aJ)] 10 [] [] []
def aF:=bd f123
theorem aX:Nk E aF:=nk
theorem start a b c d e f:aI E f123 aF [D.agg [sc (bool a),ints u64 b,sc (int i64 c),sc (bool d),ints u64 e,sc (int i64 f)]]=aO (b.length<=1099511627776) (aO (e.length<=1099511627776) (some [D.agg [sc (bool a),ints u64 b,sc (int i64 c),sc (bool d),ints u64 e,sc (int i64 f)]])):=eJ aX
def sp(s:yA):Prop×List D:=(s.2.1.length<=1099511627776/\s.2.2.2.2.1.length<=1099511627776,[.agg [.sc (.bool s.1),.ints .u64 s.2.1,.sc (.int .i64 s.2.2.1),.sc (.bool s.2.2.2.1),.ints .u64 s.2.2.2.2.1,.sc (.int .i64 s.2.2.2.2.2)]])
theorem spec:jL E f123 aF zQ sp:=by
 intro s h;exact(start s.1 s.2.1 s.2.2.1 s.2.2.2.1 s.2.2.2.2.1 s.2.2.2.2.2).trans ((gP h.1).trans (gP h.2))
def aJ:dK:=orc1 zQ sp
theorem ok:OK 123 aJ:=(fJ E aF (aA aPY.ok aD) func123).qB rfl spec
end aCY
namespace aQA
def E:=mE [(67,wF.aJ),(123,aCY.aJ)] 16 [] [] []
def aF:=bd f154
theorem aX:Nk E aF:=nk
theorem start a b c d e f:aI E f154 aF [D.agg [sc (bool a),ints u64 b,sc (int i64 c)],D.agg [sc (bool d),ints u64 e,sc (int i64 f)]]=aO (fA (a,b,c,d,e,f)) (aO (b.length<=1099511627776/\e.length<=1099511627776) (some [D.agg [sc (bool a),ints u64 b,sc (int i64 c),sc (bool d),ints u64 e,sc (int i64 f)],D.s (sc (int i64 0))])):=eJ aX
def sp(x y:gQ):Prop×List D:=(aR x/\aR y/\eN (dv x) (dv y)<=0,[.agg [.sc (.bool x.1),.ints .u64 x.2.1,.sc (.int .i64 x.2.2),.sc (.bool y.1),.ints .u64 y.2.1,.sc (.int .i64 y.2.2)],.s (.sc (.int .i64 0))])
theorem spec:hI E f154 aF jO jO sp:=by
 rintro x y ⟨h1,h2,h3⟩;have l1:=h1.len;have l2:=h2.len;exact(start x.1 x.2.1 x.2.2 y.1 y.2.1 y.2.2).trans ((gP ⟨h1,h2,h3⟩).trans (gP ⟨by omega,by omega⟩))
def aJ:dK:=orc2 jO jO sp
theorem ok:OK 154 aJ:=(fJ E aF (aA wF.ok (aA aCY.ok aD)) func154).nF rfl spec
end aQA
namespace Eo
def E:=mE [(154,aQA.aJ)] 9 [6] [] []
def aF:=bd f113
theorem aX:Nk E aF:=nk
theorem start a b c:aI E f113 aF [D.agg [sc (bool a),ints u64 b,sc (int i64 c)]]=aO (aR (a,b,c)/\aR (a,b,c)/\eN (dv (a,b,c)) (dv (a,b,c))<=0) (some [D.agg [sc (bool a),ints u64 b,sc (int i64 c),sc (bool a),ints u64 b,sc (int i64 c)],D.s (sc (int i64 0))]):=eJ aX
def sp(x:gQ):Prop×List D:=(aR x,[.agg [.sc (.bool x.1),.ints .u64 x.2.1,.sc (.int .i64 x.2.2),.sc (.bool x.1),.ints .u64 x.2.1,.sc (.int .i64 x.2.2)],.s (.sc (.int .i64 0))])
theorem spec:jL E f113 aF jO sp:=by
 intro x h;exact(start x.1 x.2.1 x.2.2).trans (gP ⟨h,h,Sj _⟩)
def aJ:dK:=orc1 jO sp
theorem ok:OK 113 aJ:=(fJ E aF (aA aQA.ok aD) func113).qB rfl spec
end Eo
namespace aQM
def E:=mE [(51,aJB.aJ),(50,jQ.aJ)] 12 [] [] []
def aF:=bd f14
theorem aX:Nk E aF:=nk
theorem start a:aI E f14 aF [D.s (sc (int i64 a))]=letI B:=(isNeg a,M6.dg a.natAbs);letI A:=bif iF (wv B) 0 then aN (wv B) 0 else((0:Int),(0:Int));aO ((-9223372036854775808:Int)<=a/\a<9223372036854775808) (aO (gY B/\(-9223372036854775808:Int)<=(0:Int)/\(0:Int)<(9223372036854775808:Int)) (some [D.agg [sc (bool (isNeg A.fst)),ints u64 (M6.dg A.fst.natAbs),sc (int i64 A.snd)]])):=eJ aX
def sp(n:Int):Prop×List D:=(-9223372036854775808<=n/\n<9223372036854775808,[dD (aN n 0)])
theorem aSW{n:Int}(h:bl n.natAbs<=524288):iF n 0=true:=by
 unfold iF
 by_cases hz:n=0
 ·rw[decide_eq_true hz,cED]
 ·have:=Fb (n:=n.natAbs) (by omega);rw[decide_eq_true (show(-1048576<=0+(tz n.natAbs:Int)) by omega),decide_eq_true (show(0+(tz n.natAbs:Int)<=1048576) by omega),cBV,cEQ]
theorem spec:jL E f14 aF (pN .i64) sp:=by
 rintro n ⟨h1,h2⟩;have hb:bl n.natAbs<=64:=dG.2 (by omega);refine(start n).trans ?_;rw[gP ⟨h1,h2⟩,gP ⟨gI (by omega),by omega,by omega⟩,nW,aSW (by omega)];rfl
def aJ:dK:=orc1 (pN .i64) sp
theorem ok:OK 14 aJ:=(fJ E aF (aA aJB.ok (aA jQ.ok aD)) func14).qB rfl spec
end aQM
namespace Pa
def E:=mE [(113,Eo.aJ),(14,aQM.aJ)] 12 [] [] []
def aF:=bd f202
theorem aX:Nk E aF:=nk
theorem start a:aI E f202 aF [D.s (sc (int i64 a))]=letI A:=aN a 0;letI C:=M6.dg A.fst.natAbs;letI B:=bool (isNeg A.fst);aO ((-9223372036854775808:Int)<=a/\a<9223372036854775808) (aO (aR (isNeg A.fst,M6.dg A.fst.natAbs,A.snd)) (some [D.agg [sc B,ints u64 C,sc (int i64 A.snd),sc B,ints u64 C,sc (int i64 A.snd)]])):=eJ aX
def sp(n:Int):Prop×List D:=(-1000000<=n/\n<=1000000,[wG (aN n 0) (aN n 0)])
theorem spec:jL E f202 aF (pN .i64) sp:=by
 rintro n ⟨h1,h2⟩;have hb:bl n.natAbs<=20:=dG.2 (by have:(2:Nat)^20=1048576:=rfl;omega);exact(start n).trans ((gP ⟨by omega,by omega⟩).trans (gP (dP (gZ (iD (by decide) (by omega)) (by omega)))))
def aJ:dK:=orc1 (pN .i64) sp
theorem ok:OK 202 aJ:=(fJ E aF (aA Eo.ok (aA aQM.ok aD)) func202).qB rfl spec
end Pa
namespace Cc
def E:=mE [(45,mL.aJ),(46,nA.aJ),(234,aQK.aJ)] 13 [12] [] []
def aF:=bd f203
theorem aX:Nk E aF:=nk
theorem start a b c:aI E f203 aF [D.agg [sc (bool a),ints u64 b,sc (int i64 c)]]=aO (aR (a,b,c)) (aO True (aB ((b.length:Int)==(0:Int)) (some [D.s (sc (int i64 0)),D.s (sc (int i64 4))]) (aO (aR (a,b,c)) (some [D.s (sc (int i64 (c+(↑(bl (M6.val b)):Int)-(1:Int)))),D.s (sc (int i64 0))])))):=eJ aX
def sp(x:gQ):Prop×List D:=(aR x,[.s (.sc (.int .i64 (if(dv x).1=0 then 0 else x.2.2+(bl (M6.val x.2.1):Nat)-1))),.s (.sc (.int .i64 (if(dv x).1=0 then 4 else 0)))])
theorem spec:jL E f203 aF jO sp:=by
 intro x h;have h:aR x:=h;refine(start x.1 x.2.1 x.2.2).trans ?_;have hz:=M6.eF h.Jy;have ha:=iT (x.1,x.2.1)
 try dsimp only at ha
 have hd:(dv x).1=wv (x.1,x.2.1):=rfl;unfold sp
 try dsimp only
 rw[gP h,gP trivial]
 by_cases h0:x.2.1.length=0
 ·have:(dv x).1=0:=by rw[hd];have:=hz.1 h0;omega
  rw[cD,if_pos this,if_pos this]
 ·have:(dv x).1≠0:=by rw[hd];have:=fun hv=>h0 (hz.2 hv);omega
  rw[bJ,if_neg this,if_neg this,gP h]
def aJ:dK:=orc1 jO sp
theorem ok:OK 203 aJ:=(fJ E aF (aA mL.ok (aA nA.ok (aA aQK.ok aD))) func203).qB rfl spec
end Cc
end W
namespace W.Arctan
def rounds(k:Nat):Nat->Nat->Nat->Nat->Nat->Nat->Nat×Nat
 |0,_,p,m,_,n=>(p-m,n)
 |f+1,t,p,m,i,n=>if t=0 then(p-m,n)else if i%4=1 then rounds k f (t/k/k) (p+t/i) m (i+2) (n+1)else rounds k f (t/k/k) p (m+t/i) (i+2) (n+1)
theorem aGZ{k Q:Nat}:∀(f t p m i n:Nat),t<2^Q->p<2^(Q+n+1)->(rounds k f t p m i n).1<2^(Q+n+f+1)/\(rounds k f t p m i n).2<=n+f:=by
 intro f
 induction f with
 |zero =>
  intro t p m i n ht hp;exact⟨cFC (cFJ _ _) hp,by simp[rounds]⟩
 |succ f ih =>
  intro t p m i n ht hp;have aND:2^(Q+n+1)<=2^(Q+n+(f+1)+1):=iC;have bEH:2^(Q+(n+1)+1)=2*2^(Q+n+1):=by rw[show Q+(n+1)+1=(Q+n+1)+1 from by omega,cDS];omega
  have hd:t/i<2^(Q+n+1):=cFC (cJD _ _) (bZQ ht (iC));have hk:t/k/k<2^Q:=cFC (cJD _ _) (cFC (cJD _ _) ht);unfold rounds;split
  ·refine⟨bZQ (cFC (cFJ _ _) hp) aND,by simp⟩
  ·split
   ·have:=ih (t/k/k) (p+t/i) m (i+2) (n+1) hk (by rw[bEH];omega);rw[show Q+(n+1)+f+1=Q+n+(f+1)+1 from by omega]at this;exact⟨this.1,by omega⟩
   ·have:=ih (t/k/k) p (m+t/i) (i+2) (n+1) hk (by rw[bEH];omega);rw[show Q+(n+1)+f+1=Q+n+(f+1)+1 from by omega]at this;exact⟨this.1,by omega⟩
def atan(k q:Nat):Nat×Nat:=rounds k (q+2) (2^q/k) 0 0 1 0
theorem Gj(k q:Nat):(atan k q).1<2^(2*q+4)/\(atan k q).2<=q+2:=by
 have hb:2^q/k<2^(q+1):=cFC (cJD _ _) (cGC (by omega) (by omega));have:=aGZ (k:=k) (Q:=q+1) (q+2) (2^q/k) 0 0 1 0 hb (cZ);rw[show q+1+0+(q+2)+1=2*q+4 from by omega]at this;exact⟨this.1,by have:=this.2;unfold atan;omega⟩
end W.Arctan
namespace W
open Go AI M
namespace aQJ
def E:=mE [(194,oC.aJ)] 32 [12,20,27] [] []
def aF:=bd f251
theorem aX:Nk E aF:=nk
theorem start a b:aI E f251 aF [D.s (ints u64 a),D.s (sc (int u64 b))]=letI A:=M6.dg (M6.val a/b.toNat);aB (decide (b<4294967296)) (aO (M6.cV a/\a.length<=8192/\0<u64.wrap (b*b)/\u64.wrap (b*b)<18446744073709551616) (some [D.s (ints u64 (M6.dg (M6.val a/(u64.wrap (b*b)).toNat)))])) (aO (M6.cV a/\a.length<=8192/\0<b/\b<18446744073709551616) (aO (M6.cV A/\A.length<=8192/\0<b/\b<18446744073709551616) (some [D.s (ints u64 (M6.dg (M6.val A/b.toNat)))]))):=eJ aX
def sp(a:List Int)(b:Int):Prop×List D:=(M6.cV a/\a.length<=8192/\2<=b/\b<4294967296,[.s (.ints .u64 (M6.dg (M6.val a/b.toNat/b.toNat)))])
theorem spec:hI E f251 aF (pI .u64) (pN .u64) sp:=by
 rintro a b ⟨hn,hl,h0,h1⟩;obtain⟨k,rfl⟩:=cDX (show 0<=b by omega);have hk:k*k<4294967296*4294967296:=Nat.mul_lt_mul_of_lt_of_le (by omega) (by omega) (by omega);have bVC:0<k*k:=Nat.mul_pos (by omega) (by omega);have e:u64.wrap ((k:Int)*(k:Int))=((k*k:Nat):Int):=by
  rw[<-cEP];exact wrap_u64
 refine(start a k).trans ?_;rw[aQ h1,e,cCQ,gP ⟨hn,hl,by omega,by omega⟩];unfold sp;rw[cCQ,cEN]
def aJ:dK:=orc2 (pI .u64) (pN .u64) sp
theorem ok:OK 251 aJ:=(fJ E aF (aA oC.ok aD) func251).nF rfl spec
end aQJ
namespace dY
def E:=mE [(98,lC.aJ),(95,oY.aJ),(194,oC.aJ),(100,uY.aJ),(102,uX.aJ),(251,aQJ.aJ)] 72 [67] [(6,[0,6,8,9,10,11])] []
def aF:=bd f230
theorem aX:Nk E aF:=nk
def L6 a b (c:Nat) (d:List Int) (e:Nat) (f:List Int) g h:=tM E f230 aF 6 [cY a,iZ b,Dx 2 c 22 d,Dx 3 e 22 f,cY g,cY h]
def bOC a b c (d:Nat) (e:List Int) f g:=tM E f230 aF 6 [cY a,iZ b,iZ c,Dx 3 d 22 e,cY f,cY g]
def bYP a b (c:Nat) (d:List Int) e f g:=tM E f230 aF 6 [cY a,iZ b,Dx 2 c 22 d,iZ e,cY f,cY g]
def bHE a b c d e f:=tM E f230 aF 6 [cY a,iZ b,iZ c,iZ d,cY e,cY f]
theorem start a b:aI E f230 aF [D.s (sc (int u64 a)),D.s (sc (int i64 b))]=letI B:=M6.dg 1;letI A:=bif lC.kG (M6.val B) b.toNat then M6.dg (M6.val B*(2:Nat)^b.toNat)else [];aO ((0:Int)<=(1:Int)/\(1:Int)<(18446744073709551616:Int)) (aO (M6.cV B/\B.length<=8192/\0<=b/\b<4611686018427387904) (aO (M6.cV A/\A.length<=8192/\0<a/\a<18446744073709551616) (dY.L6 a (M6.dg (M6.val A/a.toNat)) 0 [] 0 [] 2 1))):=eJ aX
theorem aGQ a b c d e f g h:L6 a b c d e f g h=letI C:=M6.dg (M6.val b/a.toNat/a.toNat);letI B:=M6.cV b/\b.length<=8192/\2<=a/\a<4294967296;letI A:=M6.dg (M6.val b/h.toNat);letI G:=M6.val f+M6.val A;letI F:=M6.val d+M6.val A;aB (decide (0<(b.length:Int))) (aO (M6.cV b/\b.length<=8192/\0<h/\h<18446744073709551616) (aB (h.tmod 4==(1:Int)) (aO (M6.cV d/\M6.cV A/\d.length<=8192/\A.length<=8192) (aO B (dY.bOC a C (bif cU.nL F then M6.dg F else []) e f (u64.wrap (g+3)) (u64.wrap (h+2))))) (aO (M6.cV f/\M6.cV A/\f.length<=8192/\A.length<=8192) (aO B (dY.bYP a C c d (bif cU.nL G then M6.dg G else []) (u64.wrap (g+3)) (u64.wrap (h+2))))))) (aO (M6.cV d/\M6.cV f/\d.length<=8192/\f.length<=8192) (some [D.s (ints u64 (M6.dg (M6.val d-M6.val f))),D.s (sc (int u64 g))])):=lJ aX
theorem bAR a b c d e f g:bOC a b c d e f g=letI C:=M6.dg (M6.val b/a.toNat/a.toNat);letI B:=M6.cV b/\b.length<=8192/\2<=a/\a<4294967296;letI A:=M6.dg (M6.val b/g.toNat);letI G:=M6.val e+M6.val A;letI F:=M6.val c+M6.val A;aB (decide (0<(b.length:Int))) (aO (M6.cV b/\b.length<=8192/\0<g/\g<18446744073709551616) (aB (g.tmod 4==(1:Int)) (aO (M6.cV c/\M6.cV A/\c.length<=8192/\A.length<=8192) (aO B (dY.bOC a C (bif cU.nL F then M6.dg F else []) d e (u64.wrap (f+3)) (u64.wrap (g+2))))) (aO (M6.cV e/\M6.cV A/\e.length<=8192/\A.length<=8192) (aO B (dY.bHE a C c (bif cU.nL G then M6.dg G else []) (u64.wrap (f+3)) (u64.wrap (g+2))))))) (aO (M6.cV c/\M6.cV e/\c.length<=8192/\e.length<=8192) (some [D.s (ints u64 (M6.dg (M6.val c-M6.val e))),D.s (sc (int u64 f))])):=lJ aX
theorem aQG a b c d e f:bHE a b c d e f=letI C:=M6.dg (M6.val b/a.toNat/a.toNat);letI B:=M6.cV b/\b.length<=8192/\2<=a/\a<4294967296;letI A:=M6.dg (M6.val b/f.toNat);letI G:=M6.val d+M6.val A;letI F:=M6.val c+M6.val A;aB (decide (0<(b.length:Int))) (aO (M6.cV b/\b.length<=8192/\0<f/\f<18446744073709551616) (aB (f.tmod 4==(1:Int)) (aO (M6.cV c/\M6.cV A/\c.length<=8192/\A.length<=8192) (aO B (dY.bHE a C (bif cU.nL F then M6.dg F else []) d (u64.wrap (e+3)) (u64.wrap (f+2))))) (aO (M6.cV d/\M6.cV A/\d.length<=8192/\A.length<=8192) (aO B (dY.bHE a C c (bif cU.nL G then M6.dg G else []) (u64.wrap (e+3)) (u64.wrap (f+2))))))) (aO (M6.cV c/\M6.cV d/\c.length<=8192/\d.length<=8192) (some [D.s (ints u64 (M6.dg (M6.val c-M6.val d))),D.s (sc (int u64 e))])):=lJ aX
open Arctan in
theorem mD {n k:Nat} (h:n<2^k) (hk:k<=524288):(M6.dg n).length<=8192:=gA (k:=8192) (bZP (dG.2 h) (by omega))
theorem aVN{n k:Nat}(h:n<2^k)(hk:k<=524288):cU.nL n=true:=decide_eq_true (mD h hk)
theorem Ld{k Q:Nat}(hk:2<=k)(aAA:k<4294967296)(hQ:Q<=200000):∀(f t p m n:Nat),t<2^Q->t<4^f->f+n<=250000->p<2^(Q+n+1)->m<2^(Q+n+1) ->
  bHE k (M6.dg t) (M6.dg p) (M6.dg m) ((2+3*n:Nat):Int) ((2*n+1:Nat):Int)=some [D.s (.ints .u64 (M6.dg (Arctan.rounds k f t p m (2*n+1) n).1)),D.s (.sc (.int .u64 ((2+3*(Arctan.rounds k f t p m (2*n+1) n).2:Nat):Int)))]:=by
 intro f
 induction f with
 |zero =>
  intro t p m n bIM ht hf hp hm;have:t=0:=by simpa using ht
  subst this;rw[aQG,M6.cT,aL (by simp),gP ⟨M6.aZ _,M6.aZ _,mD hp (by omega),mD hm (by omega)⟩,M6.bZ,M6.bZ];rfl
 |succ f ih =>
  intro t p m n bIM ht hf hp hm;rw[aQG];unfold Arctan.rounds
  by_cases hz:t=0
  ·subst hz;rw[M6.cT,aL (by simp),gP ⟨M6.aZ _,M6.aZ _,mD hp (by omega),mD hm (by omega)⟩,M6.bZ,M6.bZ,if_pos rfl]
  ·have bBT:(M6.dg t).length≠0:=fun h=>hz (M6.jE.1 h)
   have et:(((2*n+1:Nat):Int)).toNat=2*n+1:=cCQ _;have ek:((k:Int)).toNat=k:=cCQ _;have em:(((2*n+1:Nat):Int)).tmod 4=(((2*n+1)%4:Nat):Int):=by rw[cHI (by omega)];omega
   have w1:u64.wrap (((2+3*n:Nat):Int)+3)=((2+3*(n+1):Nat):Int):=by rw[wrap_u64];omega
   have w2:u64.wrap (((2*n+1:Nat):Int)+2)=((2*(n+1)+1:Nat):Int):=by rw[wrap_u64];omega
   have bHU:t/k/k<2^Q:=cFC (cJD _ _) (cFC (cJD _ _) bIM);have bPK:t/k/k<4^f:=by
    rw[cEN];apply cEL;have:4<=k*k:=cJC hk hk;rw[cDS 4 f,cDR (4^f)]at ht;exact bZQ ht (cAI _ this)
   have aND:2^(Q+(n+1)+1)=2*2^(Q+n+1):=by rw[show Q+(n+1)+1=(Q+n+1)+1 from by omega,cDS];omega
   have hd:t/(2*n+1)<2^(Q+n+1):=cFC (cJD _ _) (bZQ bIM (iC));have lt:=mD bIM (by omega);have ld:=mD hd (by omega);rw[aQ];simp only[et,ek,em,M6.bZ,w1,w2];rw[gP ⟨M6.aZ _,lt,by omega,by omega⟩,if_neg hz,show 2*n+1+2=2*(n+1)+1 by omega]
   by_cases hc:(2*n+1)%4=1
   ·have hs:p+t/(2*n+1)<2^(Q+(n+1)+1):=by rw[aND];omega
    rw[cD,gP ⟨M6.aZ _,M6.aZ _,mD hp (by omega),ld⟩,gP ⟨M6.aZ _,lt,by omega,by omega⟩,if_pos hc,aVN hs (by omega),cond_true];exact ih _ _ _ (n+1) bHU bPK (by omega) hs (by rw[aND];omega)
   ·have hs:m+t/(2*n+1)<2^(Q+(n+1)+1):=by rw[aND];omega
    rw[bJ,gP ⟨M6.aZ _,M6.aZ _,mD hm (by omega),ld⟩,gP ⟨M6.aZ _,lt,by omega,by omega⟩,if_neg hc,aVN hs (by omega),cond_true];exact ih _ _ _ (n+1) bHU bPK (by omega) (by rw[aND];omega) hs
def sp(k q:Int):Prop×List D:=((2<=k/\k<4294967296)/\0<=q/\q<=150000,[.s (.ints .u64 (M6.dg (Arctan.atan k.toNat q.toNat).1)),.s (.sc (.int .u64 ((2+3*(Arctan.atan k.toNat q.toNat).2:Nat):Int)))])
theorem spec:hI E f230 aF (pN .u64) (pN .i64) sp:=by
 rintro k q ⟨⟨h1,h2⟩,h3,h4⟩;refine(start k q).trans ?_;unfold sp;obtain⟨k,rfl⟩:=cDX (show 0<=k by omega);obtain⟨q,rfl⟩:=cDX h3;have Pu:2^q<2^(q+1):=cGC (by omega) (by omega);have hb:2^q/k<2^(q+1):=cFC (cJD _ _) Pu;have so:lC.kG 1 q=true:=by
  unfold lC.kG;rw[show bl 1=1 from rfl,decide_eq_true (show 1+q<=524288 by omega),cEQ]
 have l1:(M6.dg 1).length<=8192:=mD (k:=1) (by decide) (by decide);have nn:M6.cV ([]:List Int):=by rw[<-M6.cT];exact M6.aZ 0
 have v0:M6.val ([]:List Int)=0:=rfl;simp only[M6.bZ,cCQ,so,cond_true,cCX];rw[gP ⟨by decide,by decide⟩,gP ⟨M6.aZ _,l1,by omega,by omega⟩,gP ⟨M6.aZ _,mD Pu (by omega),by omega,by omega⟩];unfold Arctan.atan;have bVU:2^q/k<4^(q+2):=bZQ hb (by rw[show(4:Nat)=2^2 from rfl,<-Nat.pow_mul];exact iC);generalize 2^q/k=t at *;have e4:4^(q+2)=16*4^q:=by rw[cDU];omega
 rw[e4]at bVU;have kk:4<=k*k:=cJC (show 2<=k by omega) (show 2<=k by omega);have step:∀a X:Nat,a<4*X->a/k/k<X:=fun a X ha=>by
  rw[cEN];exact cEL (bZQ ha (cAI _ kk))
 have aOV:∀a:Nat,a/k/k<=a:=fun a=>bZP (cJD _ _) (cJD _ _)
 have ht:=mD hb (by omega);rw[aGQ,show q+2=(q+1)+1 by omega];unfold Arctan.rounds
 by_cases z:t=0
 ·subst z;rw[M6.cT,aL (by simp),gP ⟨nn,nn,by decide,by decide⟩,if_pos rfl,v0];rfl
 ·have bBT:(M6.dg t).length≠0:=fun h=>z (M6.jE.1 h)
  rw[aQ,if_neg z,if_pos (by decide)];simp only[M6.bZ,v0,bYV,Int.toNat_one,Nat.div_one,cCQ];have rW:=cFC (aOV t) hb;have bVV:=step t (4*4^q) (by omega);have l2:=mD rW (by omega);rw[gP ⟨M6.aZ _,ht,by decide,by decide⟩,cD (by decide),gP ⟨nn,M6.aZ _,by decide,ht⟩,gP ⟨M6.aZ _,ht,by omega,by omega⟩,aVN hb (by omega),cond_true,bAR,show u64.wrap (2+3)=5 from wrap_u64 (by decide) (by decide),show u64.wrap (1+2)=3 from wrap_u64 (by decide) (by decide)];unfold Arctan.rounds;generalize t/k/k=u at *
  by_cases z1:u=0
  ·subst z1;rw[M6.cT,aL (by simp),gP ⟨M6.aZ _,nn,ht,by decide⟩,if_pos rfl,v0,M6.bZ];rfl
  ·have Jj:(M6.dg u).length≠0:=fun h=>z1 (M6.jE.1 h)
   have bPI:u/3<2^(q+1):=cFC (cJD _ _) rW;rw[aQ,if_neg z1,if_neg (by decide)];simp only[M6.bZ,v0,bYV,cCQ,show((3:Int)).toNat=3 from rfl];rw[gP ⟨M6.aZ _,l2,by decide,by decide⟩,bJ (by decide),gP ⟨nn,M6.aZ _,by decide,mD bPI (by omega)⟩,gP ⟨M6.aZ _,l2,by omega,by omega⟩,aVN bPI (by omega),cond_true,show u64.wrap (5+3)=8 from wrap_u64 (by decide) (by decide),show u64.wrap (3+2)=5 from wrap_u64 (by decide) (by decide)];have up:2^(q+1)<=2^(q+1+2+1):=iC;exact Ld (k:=k) (Q:=q+1) (by omega) (by omega) (by omega) q (u/k/k) t (u/3) 2 (cFC (aOV u) rW) (step u (4^q) bVV) (by omega) (by omega) (by omega)
def aJ:dK:=orc2 (pN .u64) (pN .i64) sp
theorem ok:OK 230 aJ:=(fJ E aF (aA lC.ok (aA oY.ok (aA oC.ok (aA uY.ok (aA uX.ok (aA aQJ.ok aD)))))) func230).nF rfl spec
end dY
namespace THalvings
def E:=mE [] 13 [] [(2,[0,3])] []
def aF:=bd f235
theorem aX:Nk E aF:=nk
def L2 a b:=tM E f235 aF 2 [cA a,cA b]
theorem start a:aI E f235 aF [D.s (sc (int i64 a))]=THalvings.L2 a 4:=eJ aX
theorem mK a b:L2 a b=aB (decide (i64.wrap (i64.wrap ((4:Int)*b)*b)<a)) (THalvings.L2 a (i64.wrap (b+1))) (some [D.s (sc (int i64 b))]):=lJ aX
def hlv(w:Int):Nat->Nat->Nat
 |0,h=>h
 |f+1,h=>if 4*(h:Int)*h<w then hlv w f (h+1)else h
def sp(w:Int):Prop×List D:=(w<=150000,[.s (.sc (.int .i64 (hlv w 200 4:Nat)))])
theorem L{w:Int}(hw:w<=150000):∀f h:Nat,h+f=204->L2 w h=some [.s (.sc (.int .i64 (hlv w f h:Nat)))]:=by
 intro f
 induction f with
 |zero =>
  intro h hh;obtain rfl:h=204:=by omega
  have e:i64.wrap (i64.wrap (4*((204:Nat):Int))*((204:Nat):Int))=166464:=by decide +kernel
  rw[mK,e,aL];rfl
 |succ f ih =>
  intro h hh;have hb:(h:Int)*h<=41616:=Int.ofNat_le.2 (cJC (show h<=204 by omega) (show h<=204 by omega));have hb0:(0:Int)<=(h:Int)*h:=cKE (by omega) (by omega);have ea:4*(h:Int)*h=4*((h:Int)*h):=Int.mul_assoc _ _ _;have e:i64.wrap (i64.wrap (4*(h:Int))*(h:Int))=4*(h:Int)*h:=by rw[wrap_i64 (n:=4*(h:Int)),wrap_i64]
  have e2:i64.wrap ((h:Int)+1)=((h+1:Nat):Int):=by rw[wrap_i64];omega
  rw[mK,e,e2];unfold hlv
  by_cases c:4*(h:Int)*h<w
  ·rw[aQ c,if_pos c];exact ih (h+1) (by omega)
  ·rw[aL c,if_neg c]
theorem spec:jL E f235 aF (pN .i64) sp:=fun w h=>(start w).trans (L h 200 4 rfl)
def aJ:dK:=orc1 (pN .i64) sp
theorem ok:OK 235 aJ:=(fJ E aF aD func235).qB rfl spec
end THalvings
namespace wC
def E:=mE [(48,Bz.aJ),(192,jM.aJ)] 36 [] [] []
def aF:=bd f236
theorem aX:Nk E aF:=nk
theorem start a c d b:aI E f236 aF [D.agg [sc (bool a),ints u64 c,sc (int i64 d)],D.s (sc (int i64 b))]=letI A:=(false,c);aB (decide (0<=i64.wrap (d+b))) (aO (gY A/\0<=i64.wrap (d+b)/\i64.wrap (d+b)<4611686018427387904) (some [D.s (ints u64 (M6.dg (bif fit (M6.val c*(2:Nat)^(i64.wrap (d+b)).toNat)then wv A*(↑((2:Nat)^(i64.wrap (d+b)).toNat):Int)else(0:Int)).natAbs))])) (aO (gY A/\0<=i64.wrap ((0:Int)-i64.wrap (d+b))/\i64.wrap ((0:Int)-i64.wrap (d+b))<4611686018427387904) (some [D.s (ints u64 (M6.dg (wv A/(↑((2:Nat)^(i64.wrap ((0:Int)-i64.wrap (d+b))).toNat):Int)).natAbs))])):=eJ aX
def aQW(p:Int×Int)(n:Int):Nat:=if 0<=p.2+n then p.1.natAbs*2^(p.2+n).toNat else p.1.natAbs/2^(-(p.2+n)).toNat
def sp(x:gQ)(n:Int):Prop×List D:=(aR x/\-1099511627776<=n/\n<=1099511627776/\(0<=x.2.2+n->fit ((dv x).1.natAbs*2^(x.2.2+n).toNat)=true),[.s (.ints .u64 (M6.dg (aQW (dv x) n)))])
theorem spec:hI E f236 aF jO (pN .i64) sp:=by
 rintro x n ⟨hx,h1,h2,hf⟩;have he:=hx.2.1;refine(start x.1 x.2.1 x.2.2 n).trans ?_;have w1:i64.wrap (x.2.2+n)=x.2.2+n:=wrap_i64;have ha:(dv x).1.natAbs=M6.val x.2.1:=iT (x.1,x.2.1);have ok:gY (false,x.2.1):=⟨hx.1.1,fun hf=>(by cases hf),hx.1.len⟩;have vx:wv (false,x.2.1)=(M6.val x.2.1:Int):=rfl;rw[w1,vx];unfold sp aQW;dsimp only
 by_cases c:0<=x.2.2+n
 ·have aWD:=hf c;rw[ha]at aWD ⊢;rw[aQ c,gP ⟨ok,c,by omega⟩,aWD,cond_true,if_pos (show 0<=(dv x).2+n from c),<-cEP,cEJ];rfl
 ·have w2:i64.wrap (0-(x.2.2+n))=-(x.2.2+n):=by rw[wrap_i64];omega
  rw[ha,w2,aL c,gP ⟨ok,by omega,by omega⟩,if_neg (show ¬0<=(dv x).2+n from c),<-Int.natCast_ediv,cEJ];rfl
def aJ:dK:=orc2 jO (pN .i64) sp
theorem ok:OK 236 aJ:=(fJ E aF (aA Bz.ok (aA jM.ok aD)) func236).nF rfl spec
end wC
namespace Oz
def E:=mE [(233,aQB.aJ),(104,Gv.aJ)] 22 [12,18] [] []
def aF:=bd f238
theorem aX:Nk E aF:=nk
theorem start a b c:aI E f238 aF [D.s (ints u64 a),D.s (ints u64 b),D.s (sc (int i64 c))]=letI B:=M6.val a*M6.val b;letI A:=bif cU.nL B then M6.dg B else [];aO (M6.cV a/\M6.cV b/\a.length<=8192/\b.length<=8192) (aO (M6.cV A/\A.length<=8192/\0<=c/\c<4611686018427387904) (some [D.s (ints u64 (M6.dg (M6.val A/(2:Nat)^c.toNat)))])):=eJ aX
def sp(a b:List Int)(n:Int):Prop×List D:=(M6.cV a/\M6.cV b/\a.length<=4096/\b.length<=4096/\0<=n/\n<4611686018427387904,[.s (.ints .u64 (M6.dg (M6.val a*M6.val b/2^n.toNat)))])
theorem spec:pO E f238 aF (pI .u64) (pI .u64) (pN .i64) sp:=by
 rintro a b n ⟨h1,h2,l1,l2,n1,n2⟩;have hl:(M6.dg (M6.val a*M6.val b)).length<=8192:=by
  refine M6.eI (k:=8192) ?_;have va:=bZQ (M6.dW h1.lM) (cBU (by decide) l1);have vb:=bZQ (M6.dW h2.lM) (cBU (by decide) l2);rw[show(8192:Nat)=4096+4096 from rfl,cDU];generalize 18446744073709551616^4096=Q at *;exact cGX va vb
 have ok:cU.nL (M6.val a*M6.val b)=true:=decide_eq_true hl;refine(start a b n).trans ?_;rw[gP ⟨h1,h2,by omega,by omega⟩,ok];simp only[cond_true,M6.bZ];exact gP ⟨M6.aZ _,hl,n1,n2⟩
def aJ:dK:=orc3 (pI .u64) (pI .u64) (pN .i64) sp
theorem ok:OK 238 aJ:=(fJ E aF (aA aQB.ok (aA Gv.ok aD)) func238).zR rfl spec
end Oz
namespace TSums
def E:Env:={ ({ base with C:=callsOf [(98,lC.aJ),(95,oY.aJ),(100,uY.aJ),(238,Oz.aJ),(194,oC.aJ),(102,uX.aJ)],wide:=some .u64 })with nt:=63,own:=[50,58],keep:=fun k=>(tlook [(4,[0,1,6,7,9])] k).getD [],cut:=tlook [] }
def aF:=bd f237
theorem aX:Nk E aF:=nk
def L4 a b c d e f g h:=tM E f237 aF 4 [iZ a,cA b,dR 2 298 [gJ c,gJ d,gJ e,gJ f],iZ g,cY h]
theorem start a b:aI E f237 aF [D.s (ints u64 a),D.s (sc (int i64 b))]=letI A:=M6.dg 1;aO ((0:Int)<=(1:Int)/\(1:Int)<(18446744073709551616:Int)) (aO (M6.cV A/\A.length<=8192/\0<=b/\b<4611686018427387904) (aC (bif lC.kG (M6.val A) b.toNat then M6.dg (M6.val A*(2:Nat)^b.toNat)else []) fun c=>TSums.L4 a b [] [] [] [] c 0)):=eJ aX
theorem wU a b c d e f g h:L4 a b c d e f g h=letI P:=M6.val f+M6.val g;letI O:=M6.val e+M6.val g;letI N:=M6.val d+M6.val g;letI K:=M6.val c+M6.val g;letI I:=decide (h.tmod 4=(3:Int));letI H:=decide (h.tmod 4=(2:Int));letI G:=decide (h.tmod 4=(1:Int));letI F:=decide (h.tmod 4=(0:Int));letI C:=u64.wrap (h+1);letI B:=M6.dg (M6.val g*M6.val a/(2:Nat)^b.toNat);letI A:=M6.cV g/\M6.cV a/\g.length<=4096/\a.length<=4096/\0<=b/\b<4611686018427387904;aB (decide (0<(g.length:Int))) (aB F (aO (M6.cV c/\M6.cV g/\c.length<=8192/\g.length<=8192) (aC (bif cU.nL K then M6.dg K else []) fun i=>aB F (aO A (aC B fun j=>aO (M6.cV j/\j.length<=8192/\0<u64.wrap (h+1)/\u64.wrap (h+1)<18446744073709551616) (aC (M6.dg (M6.val j/C.toNat)) fun k=>TSums.L4 a b i d e f k C))) (aB G (aO A (aC B fun l=>aO (M6.cV l/\l.length<=8192/\0<u64.wrap (h+1)/\u64.wrap (h+1)<18446744073709551616) (aC (M6.dg (M6.val l/C.toNat)) fun m=>TSums.L4 a b c i e f m C))) (aB H (aO A (aC B fun n=>aO (M6.cV n/\n.length<=8192/\0<u64.wrap (h+1)/\u64.wrap (h+1)<18446744073709551616) (aC (M6.dg (M6.val n/C.toNat)) fun o=>TSums.L4 a b c d i f o C))) (aB I (aO A (aC B fun p=>aO (M6.cV p/\p.length<=8192/\0<u64.wrap (h+1)/\u64.wrap (h+1)<18446744073709551616) (aC (M6.dg (M6.val p/C.toNat)) fun q=>TSums.L4 a b c d e i q C))) none))))) (aB G (aO (M6.cV d/\M6.cV g/\d.length<=8192/\g.length<=8192) (aC (bif cU.nL N then M6.dg N else []) fun r=>aB F (aO A (aC B fun s=>aO (M6.cV s/\s.length<=8192/\0<u64.wrap (h+1)/\u64.wrap (h+1)<18446744073709551616) (aC (M6.dg (M6.val s/C.toNat)) fun t=>TSums.L4 a b r d e f t C))) (aB G (aO A (aC B fun u=>aO (M6.cV u/\u.length<=8192/\0<u64.wrap (h+1)/\u64.wrap (h+1)<18446744073709551616) (aC (M6.dg (M6.val u/C.toNat)) fun v=>TSums.L4 a b c r e f v C))) (aB H (aO A (aC B fun w=>aO (M6.cV w/\w.length<=8192/\0<u64.wrap (h+1)/\u64.wrap (h+1)<18446744073709551616) (aC (M6.dg (M6.val w/C.toNat)) fun x=>TSums.L4 a b c d r f x C))) (aB I (aO A (aC B fun y=>aO (M6.cV y/\y.length<=8192/\0<u64.wrap (h+1)/\u64.wrap (h+1)<18446744073709551616) (aC (M6.dg (M6.val y/C.toNat)) fun z=>TSums.L4 a b c d e r z C))) none))))) (aB H (aO (M6.cV e/\M6.cV g/\e.length<=8192/\g.length<=8192) (aC (bif cU.nL O then M6.dg O else []) fun aa=>aB F (aO A (aC B fun ab=>aO (M6.cV ab/\ab.length<=8192/\0<u64.wrap (h+1)/\u64.wrap (h+1)<18446744073709551616) (aC (M6.dg (M6.val ab/C.toNat)) fun ac=>TSums.L4 a b aa d e f ac C))) (aB G (aO A (aC B fun ad=>aO (M6.cV ad/\ad.length<=8192/\0<u64.wrap (h+1)/\u64.wrap (h+1)<18446744073709551616) (aC (M6.dg (M6.val ad/C.toNat)) fun ae=>TSums.L4 a b c aa e f ae C))) (aB H (aO A (aC B fun af=>aO (M6.cV af/\af.length<=8192/\0<u64.wrap (h+1)/\u64.wrap (h+1)<18446744073709551616) (aC (M6.dg (M6.val af/C.toNat)) fun ag=>TSums.L4 a b c d aa f ag C))) (aB I (aO A (aC B fun ah=>aO (M6.cV ah/\ah.length<=8192/\0<u64.wrap (h+1)/\u64.wrap (h+1)<18446744073709551616) (aC (M6.dg (M6.val ah/C.toNat)) fun ai=>TSums.L4 a b c d e aa ai C))) none))))) (aB I (aO (M6.cV f/\M6.cV g/\f.length<=8192/\g.length<=8192) (aC (bif cU.nL P then M6.dg P else []) fun aj=>aB F (aO A (aC B fun ak=>aO (M6.cV ak/\ak.length<=8192/\0<u64.wrap (h+1)/\u64.wrap (h+1)<18446744073709551616) (aC (M6.dg (M6.val ak/C.toNat)) fun al=>TSums.L4 a b aj d e f al C))) (aB G (aO A (aC B fun am=>aO (M6.cV am/\am.length<=8192/\0<u64.wrap (h+1)/\u64.wrap (h+1)<18446744073709551616) (aC (M6.dg (M6.val am/C.toNat)) fun an=>TSums.L4 a b c aj e f an C))) (aB H (aO A (aC B fun ao=>aO (M6.cV ao/\ao.length<=8192/\0<u64.wrap (h+1)/\u64.wrap (h+1)<18446744073709551616) (aC (M6.dg (M6.val ao/C.toNat)) fun ap=>TSums.L4 a b c d aj f ap C))) (aB I (aO A (aC B fun aq=>aO (M6.cV aq/\aq.length<=8192/\0<u64.wrap (h+1)/\u64.wrap (h+1)<18446744073709551616) (aC (M6.dg (M6.val aq/C.toNat)) fun ar=>TSums.L4 a b c d e aj ar C))) none))))) none)))) (aO (M6.cV c/\M6.cV e/\c.length<=8192/\e.length<=8192) (aC (M6.dg (M6.val c-M6.val e)) fun au=>aO (M6.cV d/\M6.cV f/\d.length<=8192/\f.length<=8192) (aC (M6.dg (M6.val d-M6.val f)) fun av=>some [D.s (ints u64 av),D.s (ints u64 au)]))):=lJ aX
def tay(u W:Nat):Nat->Nat->Nat->Nat->Nat->Nat->Nat×Nat×Nat×Nat
 |0,_,a,b,c,d=>(a,b,c,d)
 |f+1,k,a,b,c,d=>if R.sq u W k=0 then(a,b,c,d)else
  if k%4=0 then tay u W f (k+1) (a+R.sq u W k) b c d else if k%4=1 then tay u W f (k+1) a (b+R.sq u W k) c d
  else if k%4=2 then tay u W f (k+1) a b (c+R.sq u W k) d else tay u W f (k+1) a b c (d+R.sq u W k)
theorem Mb{u W:Nat}(h:u<=W):∀k,R.sq u W k<=W
 |0=>bYT _
 |k+1=>bZP (R.Ma h k) (Mb h k)
theorem L{w:Nat}{a0:List Int}(hn:M6.cV a0)(hl:a0.length<=4096)(hu:M6.val a0<=2^w)(hw:w<=150000):∀(f k a b c d:Nat),k+f<=200000->R.sq (M6.val a0) (2^w) (k+f)=0 ->
  a<=k*2^w->b<=k*2^w->c<=k*2^w->d<=k*2^w ->
  L4 a0 w (M6.dg a) (M6.dg b) (M6.dg c) (M6.dg d) (M6.dg (R.sq (M6.val a0) (2^w) k)) k=some [.s (.ints .u64 (M6.dg ((tay (M6.val a0) (2^w) f k a b c d).2.1-(tay (M6.val a0) (2^w) f k a b c d).2.2.2))),.s (.ints .u64 (M6.dg ((tay (M6.val a0) (2^w) f k a b c d).1-(tay (M6.val a0) (2^w) f k a b c d).2.2.1)))]:=by
 intro f
 induction f with
 |zero =>
  intro k a b c d hk h0 ha hb hc hd;have pw:k*2^w<2^(w+18):=by
   rw[cDU,cDR];exact cMY (by omega) (cBT (by decide))
  rw[bZR]at h0;rw[wU,h0,M6.cT,aL (by simp)];simp only[aH];rw[gP ⟨M6.aZ _,M6.aZ _,dY.mD (cFC ha pw) (by omega),dY.mD (cFC hc pw) (by omega)⟩,gP ⟨M6.aZ _,M6.aZ _,dY.mD (cFC hb pw) (by omega),dY.mD (cFC hd pw) (by omega)⟩];simp only[M6.bZ];rfl
 |succ f ih =>
  intro k a b c d hk h0 ha hb hc hd;have pw:∀j,j<=200000->j*2^w<2^(w+18):=fun j hj=>by
   rw[cDU,cDR];exact cMY (by omega) (cBT (by decide))
  have hs:(k+1)*2^w=k*2^w+2^w:=by rw[bZN,cCX]
  have ht:=Mb hu k;have lt:(M6.dg (R.sq (M6.val a0) (2^w) k)).length<=4096:=gA (k:=4096) (bZP (dG.2 (cFC ht (cGC (by decide) (cMW w)))) (by omega));rw[wU];unfold tay
  by_cases hz:R.sq (M6.val a0) (2^w) k=0
  ·rw[hz,M6.cT,aL (by simp),if_pos rfl];simp only[aH];rw[gP ⟨M6.aZ _,M6.aZ _,dY.mD (cFC ha (pw k (by omega))) (by omega),dY.mD (cFC hc (pw k (by omega))) (by omega)⟩,gP ⟨M6.aZ _,M6.aZ _,dY.mD (cFC hb (pw k (by omega))) (by omega),dY.mD (cFC hd (pw k (by omega))) (by omega)⟩];simp only[M6.bZ]
  ·have bBT:(M6.dg (R.sq (M6.val a0) (2^w) k)).length≠0:=fun h=>hz (M6.jE.1 h)
   have em:(k:Int).tmod 4=((k%4:Nat):Int):=by rw[cHI (by omega)];omega
   have w1:u64.wrap ((k:Int)+1)=((k+1:Nat):Int):=by rw[wrap_u64];omega
   have ew:(w:Int).toNat=w:=cCQ _;have ek:(((k+1:Nat)):Int).toNat=k+1:=cCQ _;have es:R.sq (M6.val a0) (2^w) k*M6.val a0/2^w/(k+1)=R.sq (M6.val a0) (2^w) (k+1):=rfl;have bSZ:(M6.dg (R.sq (M6.val a0) (2^w) k*M6.val a0/2^w)).length<=8192:=by
    have:R.sq (M6.val a0) (2^w) k*M6.val a0/2^w<=R.sq (M6.val a0) (2^w) k:=Nat.div_le_of_le_mul (by rw[cDR (2^w)];exact cBH _ hu);exact dY.mD (cFC (bZP this ht) (cGC (by decide) (cMW w))) (by omega)
   rw[aQ];simp only[aH,em,w1,ew,ek,M6.bZ,es];rw[if_neg hz];have aYT:k+1+f=k+(f+1):=by omega
   have Tj:∀x,x<=k*2^w->x+R.sq (M6.val a0) (2^w) k<=(k+1)*2^w/\cU.nL (x+R.sq (M6.val a0) (2^w) k)=true/\(M6.dg x).length<=8192:=fun x hx=>by
    have h1:x+R.sq (M6.val a0) (2^w) k<=(k+1)*2^w:=by omega
    exact⟨h1,dY.aVN (cFC h1 (pw (k+1) (by omega))) (by omega),dY.mD (cFC hx (pw k (by omega))) (by omega)⟩
   have up:∀x,x<=k*2^w->x<=(k+1)*2^w:=fun x hx=>by omega
   have g1:M6.cV (M6.dg (R.sq (M6.val a0) (2^w) k))/\M6.cV a0/\(M6.dg (R.sq (M6.val a0) (2^w) k)).length<=4096/\a0.length<=4096/\(0:Int)<=w/\(w:Int)<4611686018427387904:=⟨M6.aZ _,hn,lt,hl,by omega,by omega⟩;have g2:M6.cV (M6.dg (R.sq (M6.val a0) (2^w) k*M6.val a0/2^w))/\(M6.dg (R.sq (M6.val a0) (2^w) k*M6.val a0/2^w)).length<=8192/\(0:Int)<((k+1:Nat):Int)/\((k+1:Nat):Int)<18446744073709551616:=⟨M6.aZ _,bSZ,by omega,by omega⟩;have h4:k%4<4:=cBB _ (by decide)
   by_cases c0:k%4=0
   ·obtain⟨x1,x2,x3⟩:=Tj a ha;rw[aQ,gP ⟨M6.aZ _,M6.aZ _,x3,by omega⟩,aQ,x2,cond_true,gP g1,gP g2,if_pos c0];exact ih (k+1) _ _ _ _ (by omega) (by rw[aYT];exact h0) x1 (up b hb) (up c hc) (up d hd)
   ·rw[aL,if_neg c0]
    by_cases c1:k%4=1
    ·obtain⟨x1,x2,x3⟩:=Tj b hb;rw[aQ,gP ⟨M6.aZ _,M6.aZ _,x3,by omega⟩,aL,aQ,x2,cond_true,gP g1,gP g2,if_pos c1];exact ih (k+1) _ _ _ _ (by omega) (by rw[aYT];exact h0) (up a ha) x1 (up c hc) (up d hd)
    ·rw[aL,if_neg c1]
     by_cases c2:k%4=2
     ·obtain⟨x1,x2,x3⟩:=Tj c hc;rw[aQ,gP ⟨M6.aZ _,M6.aZ _,x3,by omega⟩,aL,aL,aQ,x2,cond_true,gP g1,gP g2,if_pos c2];exact ih (k+1) _ _ _ _ (by omega) (by rw[aYT];exact h0) (up a ha) (up b hb) x1 (up d hd)
     ·obtain⟨x1,x2,x3⟩:=Tj d hd;rw[aL,aQ,gP ⟨M6.aZ _,M6.aZ _,x3,by omega⟩,aL,aL,aL,aQ,x2,cond_true,gP g1,gP g2,if_neg c2];exact ih (k+1) _ _ _ _ (by omega) (by rw[aYT];exact h0) (up a ha) (up b hb) (up c hc) x1
def aGW(u w:Nat):Nat:=(tay u (2^w) (w+1) 0 0 0 0 0).2.1-(tay u (2^w) (w+1) 0 0 0 0 0).2.2.2
def aGX(u w:Nat):Nat:=(tay u (2^w) (w+1) 0 0 0 0 0).1-(tay u (2^w) (w+1) 0 0 0 0 0).2.2.1
def sp(a:List Int)(w:Int):Prop×List D:=(M6.cV a/\0<=w/\w<=150000/\2*M6.val a<=2^w.toNat,[.s (.ints .u64 (M6.dg (aGW (M6.val a) w.toNat))),.s (.ints .u64 (M6.dg (aGX (M6.val a) w.toNat)))])
theorem spec:hI E f237 aF (pI .u64) (pN .i64) sp:=by
 rintro a w ⟨hn,w0,w1,hu⟩;refine(start a w).trans ?_;obtain⟨w,rfl⟩:=cDX w0;rw[cCQ]at hu;have hl:a.length<=4096:=by
  have e:M6.dg (M6.val a)=a:=by first |exact hn |exact Eq.symm hn
  rw[<-e];exact gA (k:=4096) (bZP (dG.2 (show M6.val a<2^(w+1) by rw[cDS];have:0<2^w:=cBT (by decide);omega)) (by omega))
 have so:lC.kG 1 w=true:=by
  unfold lC.kG;rw[show bl 1=1 from rfl,decide_eq_true (show 1+w<=524288 by omega),cEQ]
 have l1:(M6.dg 1).length<=8192:=dY.mD (k:=1) (by decide) (by decide);unfold sp;simp only[M6.bZ,cCQ,so,cond_true,cCX,aH];rw[gP ⟨by decide,by decide⟩,gP ⟨M6.aZ _,l1,by omega,by omega⟩,<-M6.cT];exact L hn hl (by omega) (by omega) (w+1) 0 0 0 0 0 (by omega) (by rw[bYV];exact R.aDT hu) (by omega) (by omega) (by omega) (by omega)
def aJ:dK:=orc2 (pI .u64) (pN .i64) sp
theorem ok:OK 237 aJ:=(fJ E aF (aA lC.ok (aA oY.ok (aA uY.ok (aA Oz.ok (aA oC.ok (aA uX.ok aD)))))) func237).nF rfl spec
end TSums
namespace aT
def E:=mE [(203,Cc.aJ),(235,THalvings.aJ),(236,wC.aJ),(237,TSums.aJ),(98,lC.aJ),(95,oY.aJ),(238,Oz.aJ),(102,uX.aJ)] 91 [41,56,59,74,84] [(10,[4,5,7,10,12,50,51])] []
def aF:=bd f205
theorem aX:Nk E aF:=nk
def Ix a b c d e f g:=tM E f205 aF 10 [iZ a,iZ b,cA c,cA d,iZ e,cA f,cA g]
theorem start a c d b:aI E f205 aF [D.agg [sc (bool a),ints u64 c,sc (int i64 d)],D.s (sc (int i64 b))]=letI H:=dv (a,c,d);letI G:=M6.dg 1;aO (aR (a,c,d)) (aC (if H.fst=0 then(0:Int)else d+(↑(bl (M6.val c)):Int)-(1:Int)) fun e=>aO (i64.wrap (i64.wrap (b+80)-if 0<e then(0:Int)else e)<=150000) (aC (↑(THalvings.hlv (i64.wrap (i64.wrap (b+80)-if 0<e then(0:Int)else e)) 200 4):Int) fun f=>letI B:=i64.wrap (i64.wrap (b+80)-match BinOp.lss with |BinOp.gtr=>if(0:Int)>e then(0:Int)else e |x=>if 0<e then(0:Int)else e)+i64.wrap ((2:Int)*f);letI A:=i64.wrap (i64.wrap (b+80)-if 0<e then(0:Int)else e)+i64.wrap ((2:Int)*f);letI F:=i64.wrap A+f;letI C:=i64.wrap F;aO (aR (a,c,d)/\(-1099511627776:Int)<=i64.wrap A/\i64.wrap A<=1099511627776/\(0<=(a,c,d).snd.snd+i64.wrap B->fit (H.fst.natAbs*(2:Nat)^((a,c,d).snd.snd+i64.wrap B).toNat)=true)) (aC (M6.dg (wC.aQW H (i64.wrap A))) fun g=>aO (M6.cV g/\0<=i64.wrap F/\i64.wrap F<=150000/\(2:Nat)*M6.val g<=(2:Nat)^C.toNat) (aC (M6.dg (TSums.aGW (M6.val g) C.toNat)) fun h=>aC (M6.dg (TSums.aGX (M6.val g) C.toNat)) fun i=>aO ((0:Int)<=(1:Int)/\(1:Int)<(18446744073709551616:Int)) (aO (M6.cV G/\G.length<=8192/\0<=i64.wrap F/\i64.wrap F<4611686018427387904) (aC (bif lC.kG (M6.val G) C.toNat then M6.dg (M6.val G*(2:Nat)^C.toNat)else []) fun j=>aT.Ix h i C f j f 0)))))):=eJ aX
theorem sG a b c d e f g:Ix a b c d e f g=letI B:=M6.dg 1;letI A:=i64.wrap ((2:Int)*d)+22;aB (decide (g<f)) (aO (M6.cV a/\M6.cV b/\a.length<=4096/\b.length<=4096/\0<=c/\c<4611686018427387904) (aC (M6.dg (M6.val a*M6.val b/(2:Nat)^c.toNat)) fun h=>aO (M6.cV h/\h.length<=8192/\(0:Int)<=(1:Int)/\(1:Int)<(4611686018427387904:Int)) (aC (bif lC.kG (M6.val h) 1 then M6.dg (M6.val h*2)else []) fun i=>aO (M6.cV a/\M6.cV a/\a.length<=4096/\a.length<=4096/\0<=c/\c<4611686018427387904) (aC (M6.dg (M6.val a*M6.val a/(2:Nat)^c.toNat)) fun j=>aO (M6.cV j/\j.length<=8192/\(0:Int)<=(1:Int)/\(1:Int)<(4611686018427387904:Int)) (aC (bif lC.kG (M6.val j) 1 then M6.dg (M6.val j*2)else []) fun k=>aO (M6.cV e/\M6.cV k/\e.length<=8192/\k.length<=8192) (aC (M6.dg (M6.val e-M6.val k)) fun l=>aT.Ix i l c d e f (i64.wrap (g+1)))))))) (aO ((0:Int)<=(1:Int)/\(1:Int)<(18446744073709551616:Int)) (aO (M6.cV B/\B.length<=8192/\0<=i64.wrap A/\i64.wrap A<4611686018427387904) (aC (bif lC.kG (M6.val B) (i64.wrap A).toNat then M6.dg (M6.val B*(2:Nat)^(i64.wrap A).toNat)else []) fun m=>some [D.s (ints u64 a),D.s (ints u64 b),D.s (ints u64 m),D.s (sc (int i64 c))]))):=lJ aX
def jG(x:Int×Int):Int:=if x.1=0 then 0 else x.2+(bl x.1.natAbs:Nat)-1
def w0(x:Int×Int)(p:Int):Int:=p+80-if 0<jG x then 0 else jG x
def hv(x:Int×Int)(p:Int):Nat:=THalvings.hlv (w0 x p) 200 4
def w1(x:Int×Int)(p:Int):Int:=w0 x p+2*(hv x p:Nat)
def w2(x:Int×Int)(p:Int):Int:=w1 x p+(hv x p:Nat)
def bU(x:Int×Int)(p:Int):Nat:=wC.aQW x (w1 x p)
def Dp(x:Int×Int)(p:Int):Nat×Nat:=R.Ie (2^(w2 x p).toNat) (hv x p) (TSums.aGW (bU x p) (w2 x p).toNat) (TSums.aGX (bU x p) (w2 x p).toNat)
def sp(x:gQ)(p:Int):Prop×List D:=(aR x/\(1<=p/\p<=70000)/\(-70000<=jG (dv x)/\jG (dv x)<=100)/\bU (dv x) p<=2^(w1 (dv x) p).toNat,
 [.s (.ints .u64 (M6.dg (Dp (dv x) p).1)),.s (.ints .u64 (M6.dg (Dp (dv x) p).2)),.s (.ints .u64 (M6.dg (2^(2*hv (dv x) p+22)))),.s (.sc (.int .i64 (w2 (dv x) p)))])
theorem aBO(w:Int):∀f h,THalvings.hlv w f h<=h+f/\h<=THalvings.hlv w f h
 |0,h=>⟨bYT _,bYT _⟩
 |f+1,h=>by
  unfold THalvings.hlv;have:=aBO w f (h+1);split <;> omega
theorem aLA{u W:Nat}(hu:u<=W):∀f k a b c d,a<=k*W->b<=k*W->c<=k*W->d<=k*W ->
  (TSums.tay u W f k a b c d).1<=(k+f)*W/\(TSums.tay u W f k a b c d).2.1<=(k+f)*W
 |0,k,a,b,c,d,ha,hb,_,_=>⟨ha,hb⟩
 |f+1,k,a,b,c,d,ha,hb,hc,hd=>by
  have hs:=TSums.Mb hu k;have e:(k+1)*W=k*W+W:=by rw[bZN,cCX]
  have e2:k*W<=(k+(f+1))*W:=cAI _ (by omega);have e3:k+1+f=k+(f+1):=by omega
  have r:=fun a b c d h1 h2 h3 h4=>e3▸aLA hu f (k+1) a b c d h1 h2 h3 h4
  unfold TSums.tay;split
  ·exact⟨bZP ha e2,bZP hb e2⟩
  ·split
   ·exact r _ _ _ _ (by omega) (by omega) (by omega) (by omega)
   ·split
    ·exact r _ _ _ _ (by omega) (by omega) (by omega) (by omega)
    ·split
     ·exact r _ _ _ _ (by omega) (by omega) (by omega) (by omega)
     ·exact r _ _ _ _ (by omega) (by omega) (by omega) (by omega)
theorem L{w:Nat}(hw:w<=150000)(x3:Nat)(h3:x3<=1000):∀(d k s c:Nat),k+d=x3->s<2^(w+20*(k+1))->c<2^(w+18)->k+d<=210 ->
  Ix (M6.dg s) (M6.dg c) w x3 (M6.dg (2^w)) x3 k=some [.s (.ints .u64 (M6.dg (R.Ie (2^w) d s c).1)),.s (.ints .u64 (M6.dg (R.Ie (2^w) d s c).2)),.s (.ints .u64 (M6.dg (2^(2*x3+22)))),.s (.sc (.int .i64 w))]
 |0,k,s,c,hk,hs,hc,hb=>by
  have e1:i64.wrap (2*(x3:Int))=2*(x3:Int):=wrap_i64;have e2:i64.wrap (2*(x3:Int)+22)=((2*x3+22:Nat):Int):=by rw[wrap_i64];omega
  have so:lC.kG 1 (2*x3+22)=true:=by
   unfold lC.kG;rw[show bl 1=1 from rfl,decide_eq_true (show 1+(2*x3+22)<=524288 by omega),cEQ]
  have l1:(M6.dg 1).length<=8192:=dY.mD (k:=1) (by decide) (by decide);rw[sG,aL,e1,e2];simp only[aH,M6.bZ,cCQ,so,cond_true,cCX];rw[gP ⟨by decide,by decide⟩,gP ⟨M6.aZ _,l1,by omega,by omega⟩];rfl
 |d+1,k,s,c,hk,hs,hc,hb=>by
  have e:i64.wrap ((k:Int)+1)=((k+1:Nat):Int):=by rw[wrap_i64];omega
  have ls:(M6.dg s).length<=4096:=gA (k:=4096) (bZP (dG.2 hs) (by omega));have lc:(M6.dg c).length<=4096:=gA (k:=4096) (bZP (dG.2 hc) (by omega));have W0:0<2^w:=cBT (by decide);have b1:s*c/2^w<2^(w+20*(k+1)+18):=by
   apply cEL;have:2^w*2^(w+20*(k+1)+18)=2^(w+20*(k+1))*2^(w+18):=by rw[<-cDU,<-cDU];congr 1;omega
   rw[this];exact cGX hs hc
  have b2:s*s/2^w<2^(w+40*(k+1)):=by
   apply cEL;have:2^w*2^(w+40*(k+1))=2^(w+20*(k+1))*2^(w+20*(k+1)):=by rw[<-cDU,<-cDU];congr 1;omega
   rw[this];exact cGX hs hs
  have so:∀n,bl n<=500000->lC.kG n 1=true:=fun n hn=>by
   unfold lC.kG;rw[decide_eq_true (show bl n+1<=524288 by omega),cEQ]
  have f1:=so _ (bZP (dG.2 b1) (by omega));have f2:=so _ (bZP (dG.2 b2) (by omega));have b3:s*s/2^w*2<2^(w+40*(k+1)+1):=by rw[cDS];omega
  have b4:s*c/2^w*2<2^(w+20*(k+1+1)):=by
   have:2^(w+20*(k+1)+18)*2<=2^(w+20*(k+1+1)):=by rw[<-cDS];exact cBU (by decide) (by omega)
   omega
  have b5:2^w-s*s/2^w*2<2^(w+18):=cFC (cFJ _ _) (cGC (by decide) (by omega));rw[sG,aQ];simp only[aH,M6.bZ,cCQ,f1,f2,cond_true,e];rw[gP ⟨M6.aZ _,M6.aZ _,ls,lc,by omega,by omega⟩,gP ⟨M6.aZ _,dY.mD b1 (by omega),by decide,by decide⟩,gP ⟨M6.aZ _,M6.aZ _,ls,ls,by omega,by omega⟩,gP ⟨M6.aZ _,dY.mD b2 (by omega),by decide,by decide⟩,
   gP ⟨M6.aZ _,M6.aZ _,dY.mD (cGC (by decide) (cMW w)) (by omega),dY.mD b3 (by omega)⟩]
  have r:=L hw x3 h3 d (k+1) (s*c/2^w*2) (2^w-s*s/2^w*2) (by omega) b4 b5 (by omega);rw[R.Se,cDR 2 (s*c/2^w),cDR 2 (s*s/2^w)];exact r
theorem spec:hI E f205 aF jO (pN .i64) sp:=by
 rintro x p ⟨hx,⟨p0,p1⟩,⟨t0,t1⟩,hu⟩;refine(start x.1 x.2.1 x.2.2 p).trans ?_;have he:=hx.2.1;have ha:(dv x).1.natAbs=M6.val x.2.1:=iT (x.1,x.2.1);have hT:(if(dv (x.1,x.2.1,x.2.2)).1=0 then 0 else x.2.2+(bl (M6.val x.2.1):Int)-1)=jG (dv x):=by rw[<-ha];rfl
 have bCE:w0 (dv x) p=p+80-if 0<jG (dv x)then 0 else jG (dv x):=rfl
 have r0:1<=w0 (dv x) p/\w0 (dv x) p<=140080:=by rw[bCE];split <;> omega
 have e1:i64.wrap (p+80)=p+80:=wrap_i64;have e2:i64.wrap (p+80-if 0<jG (dv x)then 0 else jG (dv x))=w0 (dv x) p:=by rw[<-bCE];exact wrap_i64
 have hh:=aBO (w0 (dv x) p) 200 4;have hv0:THalvings.hlv (w0 (dv x) p) 200 4=hv (dv x) p:=rfl;rw[hv0]at hh;have bGC:w1 (dv x) p=w0 (dv x) p+2*((hv (dv x) p:Nat):Int):=rfl;have bIJ:w2 (dv x) p=w1 (dv x) p+((hv (dv x) p:Nat):Int):=rfl;have e3:i64.wrap (2*((hv (dv x) p:Nat):Int))=2*((hv (dv x) p:Nat):Int):=wrap_i64;have e4:i64.wrap (w0 (dv x) p+2*((hv (dv x) p:Nat):Int))=w1 (dv x) p:=by rw[bGC];exact wrap_i64
 have e5:i64.wrap (w1 (dv x) p+((hv (dv x) p:Nat):Int))=w2 (dv x) p:=by rw[bIJ];exact wrap_i64
 have hU:wC.aQW (dv x) (w1 (dv x) p)=bU (dv x) p:=rfl;have aYG:(x.1,x.2.1,x.2.2)=x:=rfl;simp only[hT,aH,e1,e2,hv0,e3,e4,e5,aYG,M6.bZ,hU];obtain⟨w,hw⟩:=cDX (show 0<=w2 (dv x) p by omega);have bWS:2*bU (dv x) p<=2^w:=by
  have:2^(w1 (dv x) p).toNat*2<=2^w:=by rw[<-cDS];exact cBU (by decide) (by omega)
  omega
 have so:lC.kG 1 w=true:=by
  unfold lC.kG;rw[show bl 1=1 from rfl,decide_eq_true (show 1+w<=524288 by omega),cEQ]
 have l1:(M6.dg 1).length<=8192:=dY.mD (k:=1) (by decide) (by decide);have aNL:0<=x.2.2+w1 (dv x) p->fit ((dv x).1.natAbs*2^(x.2.2+w1 (dv x) p).toNat)=true:=fun hc=>by
  have:bU (dv x) p=(dv x).1.natAbs*2^(x.2.2+w1 (dv x) p).toNat:=by
   rw[<-hU];unfold wC.aQW;exact if_pos hc
  rw[<-this];exact decide_eq_true (bZP (dG.2 (cFC hu (cGC (by decide) (cMW _)))) (by omega))
 unfold sp Dp;dsimp only;have hwb:w<=141000:=by omega
 rw[hw];rw[cCQ,so,cond_true,cCX];rw[gP hx,gP,gP ⟨hx,by omega,by omega,aNL⟩,gP ⟨M6.aZ _,by omega,by omega,bWS⟩,gP ⟨by decide,by decide⟩,gP ⟨M6.aZ _,l1,by omega,by omega⟩];obtain⟨g1,g2⟩:=aLA (u:=bU (dv x) p) (W:=2^w) (by omega) (w+1) 0 0 0 0 0 (by omega) (by omega) (by omega) (by omega);have pw:(0+(w+1))*2^w<2^(w+18):=by
  rw[cDU,cDR];exact cMY (by omega) (cBT (by decide))
 have hs:TSums.aGW (bU (dv x) p) w<2^(w+18):=cFC (bZP (cFJ _ _) g2) pw;have hc:TSums.aGX (bU (dv x) p) w<2^(w+18):=cFC (bZP (cFJ _ _) g1) pw;exact L (by omega) (hv (dv x) p) (by omega) (hv (dv x) p) 0 _ _ (by omega) (bZQ hs (cBU (by decide) (by omega))) hc (by omega)
def aJ:dK:=orc2 jO (pN .i64) sp
theorem ok:OK 205 aJ:=(fJ E aF (aA Cc.ok (aA THalvings.ok (aA wC.ok (aA TSums.ok (aA lC.ok (aA oY.ok (aA Oz.ok (aA uX.ok aD)))))))) func205).nF rfl spec
end aT
namespace Zu
def E:=mE [(239,Ce.aJ),(45,mL.aJ),(240,cS.aJ)] 25 [22] [] []
def aF:=bd f209
theorem aX:Nk E aF:=nk
theorem start a d e b c:aI E f209 aF [D.agg [sc (bool a),ints u64 d,sc (int i64 e)],D.s (sc (int i64 b)),D.s (sc (bool c))]=letI A:=cS.oM c (wv (a,d)) e b;letI B:=bif iF A.fst A.snd then aN A.fst A.snd else((0:Int),(0:Int));aO True (aC (decide (1<=b)&&decide (b<=70000)) fun f=>aB (!f) (some [D.agg [sc (bool false),sc (slice none 0 0),sc (int i64 0)],D.s (sc (int i64 1))]) (aO (aR (a,d,e)) (aO (gY (a,d)/\((-4611686018427387904:Int)<=e/\e<4611686018427387904)/\1<=b/\b<=70000) (aC (isNeg B.fst) fun g=>aC (M6.dg B.fst.natAbs) fun h=>aC B.snd fun i=>aC (bif iF A.fst A.snd then(0:Int)else(5:Int)) fun j=>some [D.agg [sc (bool g),ints u64 h,sc (int i64 i)],D.s (sc (int i64 j))])))):=eJ aX
def sp(x:gQ)(p:Int)(up:Bool):Prop×List D:=(aR x/\1<=p/\p<=70000,dE (iF (cS.oM up (dv x).1 (dv x).2 p).1 (cS.oM up (dv x).1 (dv x).2 p).2) (aN (cS.oM up (dv x).1 (dv x).2 p).1 (cS.oM up (dv x).1 (dv x).2 p).2))
theorem spec:pO E f209 aF jO (pN .i64) pB sp:=by
 rintro x p up ⟨hx,h1,h2⟩;have he:=hx.2.1;refine(start x.1 x.2.1 x.2.2 p up).trans ?_;simp only[aH];rw[gP trivial,decide_eq_true h1,decide_eq_true h2,cBV,cAT,bF,gP hx,gP ⟨hx.Ez,⟨by omega,by omega⟩,h1,h2⟩];rfl
def aJ:dK:=orc3 jO (pN .i64) pB sp
theorem ok:OK 209 aJ:=(fJ E aF (aA Ce.ok (aA mL.ok (aA cS.ok aD))) func209).zR rfl spec
end Zu
namespace Po
def E:=mE [(209,Zu.aJ)] 11 [8] [] []
def aF:=bd f162
theorem aX:Nk E aF:=nk
theorem start a c d b:aI E f162 aF [D.agg [sc (bool a),ints u64 c,sc (int i64 d)],D.s (sc (int i64 b))]=letI A:=cS.oM false (dv (a,c,d)).fst (dv (a,c,d)).snd b;letI B:=bif iF A.fst A.snd then aN A.fst A.snd else((0:Int),(0:Int));aO (aR (a,c,d)/\1<=b/\b<=70000) (some [D.agg [sc (bool (isNeg B.fst)),ints u64 (M6.dg B.fst.natAbs),sc (int i64 B.snd)],D.s (sc (int i64 (bif iF A.fst A.snd then(0:Int)else(5:Int))))]):=eJ aX
def sp(x:gQ)(p:Int):Prop×List D:=(aR x/\1<=p/\p<=70000,dE (iF (cS.oM false (dv x).1 (dv x).2 p).1 (cS.oM false (dv x).1 (dv x).2 p).2) (aN (cS.oM false (dv x).1 (dv x).2 p).1 (cS.oM false (dv x).1 (dv x).2 p).2))
theorem spec:hI E f162 aF jO (pN .i64) sp:=by
 intro x p h;refine(start x.1 x.2.1 x.2.2 p).trans ((gP h).trans ?_);rfl
def aJ:dK:=orc2 jO (pN .i64) sp
theorem ok:OK 162 aJ:=(fJ E aF (aA Zu.ok aD) func162).nF rfl spec
end Po
namespace bBG
def E:=mE [(209,Zu.aJ)] 11 [8] [] []
def aF:=bd f163
theorem aX:Nk E aF:=nk
theorem start a c d b:aI E f163 aF [D.agg [sc (bool a),ints u64 c,sc (int i64 d)],D.s (sc (int i64 b))]=letI A:=cS.oM true (dv (a,c,d)).fst (dv (a,c,d)).snd b;letI B:=bif iF A.fst A.snd then aN A.fst A.snd else((0:Int),(0:Int));aO (aR (a,c,d)/\1<=b/\b<=70000) (some [D.agg [sc (bool (isNeg B.fst)),ints u64 (M6.dg B.fst.natAbs),sc (int i64 B.snd)],D.s (sc (int i64 (bif iF A.fst A.snd then(0:Int)else(5:Int))))]):=eJ aX
def sp(x:gQ)(p:Int):Prop×List D:=(aR x/\1<=p/\p<=70000,dE (iF (cS.oM true (dv x).1 (dv x).2 p).1 (cS.oM true (dv x).1 (dv x).2 p).2) (aN (cS.oM true (dv x).1 (dv x).2 p).1 (cS.oM true (dv x).1 (dv x).2 p).2))
theorem spec:hI E f163 aF jO (pN .i64) sp:=by
 intro x p h;refine(start x.1 x.2.1 x.2.2 p).trans ((gP h).trans ?_);rfl
def aJ:dK:=orc2 jO (pN .i64) sp
theorem ok:OK 163 aJ:=(fJ E aF (aA Zu.ok aD) func163).nF rfl spec
end bBG
namespace bM
def E:=mE [(102,uX.aJ),(100,uY.aJ),(50,jQ.aJ),(162,Po.aJ),(163,bBG.aJ),(158,Ki.aJ),(14,aQM.aJ)] 71 [] [] []
def aF:=bd f206
theorem aX:Nk E aF:=nk
theorem start a b c d:aI E f206 aF [D.s (ints u64 a),D.s (ints u64 b),D.s (sc (int i64 c)),D.s (sc (int i64 d))]=letI P:=M6.val a+M6.val b;letI N:=aN 1 0;letI O:=M6.dg N.fst.natAbs;letI K:=M6.cV a/\M6.cV b/\a.length<=8192/\b.length<=8192;letI I:=i64.wrap ((0:Int)-c);aO K (aC (M6.dg (M6.val a-M6.val b)) fun e=>letI C:=bif iF (wv (false,e)) I then aN (wv (false,e)) I else((0:Int),(0:Int));aO K (aC (bif cU.nL P then M6.dg P else []) fun f=>letI F:=bif iF (wv (false,f)) I then aN (wv (false,f)) I else((0:Int),(0:Int));aO (gY (false,e)/\(-9223372036854775808:Int)<=i64.wrap ((0:Int)-c)/\i64.wrap ((0:Int)-c)<9223372036854775808) (aC (isNeg C.fst) fun g=>aC (M6.dg C.fst.natAbs) fun h=>aC C.snd fun i=>letI A:=cS.oM false (dv (g,h,i)).fst (dv (g,h,i)).snd d;letI G:=bif iF A.fst A.snd then aN A.fst A.snd else((0:Int),(0:Int));aO (gY (false,f)/\(-9223372036854775808:Int)<=i64.wrap ((0:Int)-c)/\i64.wrap ((0:Int)-c)<9223372036854775808) (aC (isNeg F.fst) fun j=>aC (M6.dg F.fst.natAbs) fun k=>aC F.snd fun l=>letI B:=cS.oM true (dv (j,k,l)).fst (dv (j,k,l)).snd d;letI H:=bif iF B.fst B.snd then aN B.fst B.snd else((0:Int),(0:Int));aO (aR (g,h,i)/\1<=d/\d<=70000) (aC (isNeg G.fst) fun m=>aC (M6.dg G.fst.natAbs) fun n=>aC G.snd fun o=>aO (aR (j,k,l)/\1<=d/\d<=70000) (aC (isNeg H.fst) fun p=>aC (M6.dg H.fst.natAbs) fun q=>aC H.snd fun r=>aO ((-9223372036854775808:Int)<=(1:Int)/\(1:Int)<(9223372036854775808:Int)) (aC (isNeg N.fst) fun s=>aC O fun t=>aC N.snd fun u=>aO (aR (p,q,r)/\aR (s,t,u)) (aC (mG (bQ.nU (dv (p,q,r)) (dv (s,t,u))) (bQ.nT (dv (p,q,r)) (dv (s,t,u)))) fun v=>aB (decide (0<v)) (aO ((-9223372036854775808:Int)<=(1:Int)/\(1:Int)<(9223372036854775808:Int)) (aC (isNeg N.fst) fun w=>aC O fun x=>aC N.snd fun y=>some [D.agg [sc (bool m),ints u64 n,sc (int i64 o),sc (bool w),ints u64 x,sc (int i64 y)]])) (some [D.agg [sc (bool m),ints u64 n,sc (int i64 o),sc (bool p),ints u64 q,sc (int i64 r)]]))))))))):=eJ aX
def Kg(a f:Nat)(w:Int):Int×Int:=aN ((a-f:Nat):Int) (-w)
def Du(a f:Nat)(w:Int):Int×Int:=aN ((a+f:Nat):Int) (-w)
def zC(p:Int×Int):Int×Int:=bif decide (0<eN p (1,0))then(1,0)else p
def sp(a f:List Int)(w q:Int):Prop×List D:=(M6.cV a/\M6.cV f/\bl (M6.val a)<=500000/\bl (M6.val f)<=500000/\(0<=w/\w<=500000)/\(1<=q/\q<=70000)/\yD false (Kg (M6.val a) (M6.val f) w) q=true/\yD true (Du (M6.val a) (M6.val f) w) q=true/\kE (shD true (Du (M6.val a) (M6.val f) w) q),
 [wG (shD false (Kg (M6.val a) (M6.val f) w) q) (zC (shD true (Du (M6.val a) (M6.val f) w) q))])
theorem spec:Pd E f206 aF (pI .u64) (pI .u64) (pN .i64) (pN .i64) sp:=by
 rintro a f w q ⟨ha,hf,ba,bf,⟨w0,w1⟩,⟨q0,q1⟩,i1,i2,pu⟩;refine(start a f w q).trans ?_;have la:a.length<=8192:=by
  have e:M6.dg (M6.val a)=a:=by first |exact ha |exact Eq.symm ha
  rw[<-e];exact gA (k:=8192) (by omega)
 have lf:f.length<=8192:=by
  have e:M6.dg (M6.val f)=f:=by first |exact hf |exact Eq.symm hf
  rw[<-e];exact gA (k:=8192) (by omega)
 have vN:∀n:Nat,wv (false,M6.dg n)=(n:Int):=fun n=>by show(M6.val (M6.dg n):Int)=n;rw[M6.bZ]
 have wN:∀n:Nat,bl n<=524288->gY (false,M6.dg n):=fun n hn=>by
  have:=gI (z:=(n:Int)) (by rw[cEJ];exact hn);rw[jB.2 (by omega),cEJ]at this;exact this
 have bs:bl (M6.val a-M6.val f)<=500000:=bZP (gM (cFJ _ _)) ba;have bt:bl (M6.val a+M6.val f)<=500001:=by
  have h1:=dG.1 ba;have h2:=dG.1 bf;refine dG.2 ?_;rw[cDS 2 500000];generalize 2^500000=Q at *;omega
 have ok:cU.nL (M6.val a+M6.val f)=true:=decide_eq_true (gA (k:=8192) (by omega));have ew:i64.wrap (0-w)=-w:=by rw[wrap_i64];omega
 have j1:iF ((M6.val a-M6.val f:Nat):Int) (-w)=true:=iD (by omega) (by rw[cEJ];omega);have j2:iF ((M6.val a+M6.val f:Nat):Int) (-w)=true:=iD (by omega) (by rw[cEJ];omega);have p1:kE (Kg (M6.val a) (M6.val f) w):=gZ j1 (by rw[cEJ];omega);have p2:kE (Du (M6.val a) (M6.val f) w):=gZ j2 (by rw[cEJ];omega);have c1:=dX (Kg (M6.val a) (M6.val f) w);have c2:=dX (Du (M6.val a) (M6.val f) w);have n1:aN 1 0=(1,0):=by decide +kernel
 have pn:kE (1,0):=⟨by decide +kernel,⟨by decide,by decide⟩,fun h=>absurd h (by decide),fun _=>by decide⟩;have d1:=dP pn;have v1:=dX ((1,0):Int×Int);rw[gP ⟨ha,hf,la,lf⟩,aH,gP ⟨ha,hf,la,lf⟩];simp only[aH,ok,cond_true,vN,ew,j1,j2,n1];rw[gP ⟨wN _ (by omega),by omega,by omega⟩,gP ⟨wN _ (by omega),by omega,by omega⟩];have eL:aN ((M6.val a-M6.val f:Nat):Int) (-w)=Kg (M6.val a) (M6.val f) w:=rfl;have eH:aN ((M6.val a+M6.val f:Nat):Int) (-w)=Du (M6.val a) (M6.val f) w:=rfl;unfold sp zC;dsimp only;rw[eL,eH];generalize Kg (M6.val a) (M6.val f) w=L at *;generalize Du (M6.val a) (M6.val f) w=H at *;have bKB:iF (cS.oM false L.1 L.2 q).1 (cS.oM false L.1 L.2 q).2=true:=i1;have bKA:iF (cS.oM true H.1 H.2 q).1 (cS.oM true H.1 H.2 q).2=true:=i2;have cu:=dX (shD true H q);have du:=dP pu;have eU:aN (cS.oM true H.1 H.2 q).1 (cS.oM true H.1 H.2 q).2=shD true H q:=rfl;have eD:aN (cS.oM false L.1 L.2 q).1 (cS.oM false L.1 L.2 q).2=shD false L q:=rfl;simp only[c1,c2,bKB,bKA,cond_true,eU,eD,cu,v1];rw[gP ⟨dP p1,q0,q1⟩,gP ⟨dP p2,q0,q1⟩,gP ⟨by decide,by decide⟩,gP ⟨du,d1⟩];show aB (decide (0<eN (shD true H q) (1,0))) _ _=_
 by_cases g:0<eN (shD true H q) (1,0)
 ·rw[aQ g,decide_eq_true g,cond_true,gP ⟨by decide,by decide⟩];rfl
 ·rw[aL g,decide_eq_false g,cond_false];rfl
def aJ:dK:=orc4 (pI .u64) (pI .u64) (pN .i64) (pN .i64) sp
theorem ok:OK 206 aJ:=(fJ E aF (aA uX.ok (aA uY.ok (aA jQ.ok (aA Po.ok (aA bBG.ok (aA Ki.ok (aA aQM.ok aD))))))) func206).aME rfl spec
end bM
namespace bI
def E:=mE [(202,Pa.aJ),(203,Cc.aJ),(50,jQ.aJ),(51,aJB.aJ),(59,Wg.aJ),(14,aQM.aJ),(205,aT.aJ),(206,bM.aJ)] 63 [] [] []
def aF:=bd f160
theorem aX:Nk E aF:=nk
theorem start a c d b:aI E f160 aF [D.agg [sc (bool a),ints u64 c,sc (int i64 d)],D.s (sc (int i64 b))]=letI Q:=wv (isNeg 1,M6.dg (cIQ 1));letI N:=i64.wrap (b+32);letI I:=i64.wrap ((0:Int)-b)-3;letI H:=dv (a,c,d);letI G:=aN 1 0;letI T:=isNeg G.fst;letI K:=M6.dg G.fst.natAbs;letI A:=bif iF Q (i64.wrap I)then aN Q (i64.wrap I)else((0:Int),(0:Int));aB ((c.length:Int)==(0:Int)) (aO ((-1000000:Int)<=(1:Int)/\(1:Int)<=(1000000:Int)) (aC T fun e=>aC K fun f=>aC G.snd fun g=>aC T fun h=>aC K fun i=>aC G.snd fun j=>some [D.agg [sc (bool e),ints u64 f,sc (int i64 g),sc (bool h),ints u64 i,sc (int i64 j)]])) (aO (aR (a,c,d)) (aC (if H.fst=0 then(0:Int)else d+(↑(bl (M6.val c)):Int)-(1:Int)) fun k=>aB (decide (i64.wrap (i64.wrap ((2:Int)*k)+8)<i64.wrap ((0:Int)-b))) (aO ((-9223372036854775808:Int)<=(1:Int)/\(1:Int)<(9223372036854775808:Int)) (aO (gY (isNeg 1,M6.dg 1)/\(-9223372036854775808:Int)<=i64.wrap I/\i64.wrap I<9223372036854775808) (aC (isNeg A.fst) fun l=>aC (M6.dg A.fst.natAbs) fun m=>aC A.snd fun n=>letI U:=dv (l,m,n);aO ((-9223372036854775808:Int)<=(1:Int)/\(1:Int)<(9223372036854775808:Int)) (aC T fun o=>aC K fun p=>aC G.snd fun q=>letI B:=bif bQ.kT (dv (o,p,q)) (-U.fst,U.snd)then bQ.oA (dv (o,p,q)) (-U.fst,U.snd)else((0:Int),(0:Int));aO (aR (o,p,q)/\aR (l,m,n)) (aC (isNeg B.fst) fun r=>aC (M6.dg B.fst.natAbs) fun s=>aC B.snd fun t=>aO ((-9223372036854775808:Int)<=(1:Int)/\(1:Int)<(9223372036854775808:Int)) (aC T fun u=>aC K fun v=>aC G.snd fun w=>some [D.agg [sc (bool r),ints u64 s,sc (int i64 t),sc (bool u),ints u64 v,sc (int i64 w)]])))))) (aO (aR (a,c,d)/\(1<=b/\b<=70000)/\((-70000:Int)<=aT.jG H/\aT.jG H<=100)/\aT.bU H b<=(2:Nat)^(aT.w1 H b).toNat) (aC (M6.dg (aT.Dp H b).snd) fun x=>aC (M6.dg ((2:Nat)^((2:Nat)*aT.hv H b+22))) fun y=>aC (aT.w2 H b) fun z=>letI P:=bM.Du (M6.val x) (M6.val y) z;letI O:=bM.Kg (M6.val x) (M6.val y) z;letI F:=M.shD false O N;letI C:=M.shD true P N;letI W:=bM.zC C;aO (M6.cV x/\M6.cV y/\bl (M6.val x)<=500000/\bl (M6.val y)<=500000/\(0<=z/\z<=500000)/\(1<=i64.wrap (b+32)/\i64.wrap (b+32)<=70000)/\yD false O N=true/\yD true P N=true/\kE C) (aC (isNeg F.fst) fun aa=>aC (M6.dg F.fst.natAbs) fun ab=>aC F.snd fun ac=>aC (isNeg W.fst) fun ad=>aC (M6.dg W.fst.natAbs) fun ae=>aC W.snd fun af=>some [D.agg [sc (bool aa),ints u64 ab,sc (int i64 ac),sc (bool ad),ints u64 ae,sc (int i64 af)]]))))):=eJ aX
def sW(x:Int×Int)(p:Int):Int×Int:=if x.1=0 then(1,0)else if 2*aT.jG x+8 < -p then bQ.oA (1,0) (-1,-p-3)else shD false (bM.Kg (aT.Dp x p).2 (2^(2*aT.hv x p+22)) (aT.w2 x p)) (p+32)
def sA(x:Int×Int)(p:Int):Int×Int:=if x.1=0 then(1,0)else if 2*aT.jG x+8 < -p then(1,0)else bM.zC (shD true (bM.Du (aT.Dp x p).2 (2^(2*aT.hv x p+22)) (aT.w2 x p)) (p+32))
def Vj(x:Int×Int)(p:Int):Prop:=(-70000<=aT.jG x/\aT.jG x<=100)/\aT.bU x p<=2^(aT.w1 x p).toNat
def aPT(a f:Nat)(w q:Int):Prop:=bl a<=500000/\bl f<=500000/\(0<=w/\w<=500000)/\yD false (bM.Kg a f w) q=true/\yD true (bM.Du a f w) q=true/\kE (shD true (bM.Du a f w) q)
def aIP(x:gQ)(p:Int):Prop:=aR x/\(1<=p/\p<=67100)/\((dv x).1≠0->-600000<=aT.jG (dv x)/\(2*aT.jG (dv x)+8 < -p->bQ.kT (1,0) (-1,-p-3)=true) /\
 (¬2*aT.jG (dv x)+8 < -p->Vj (dv x) p/\aPT (aT.Dp (dv x) p).2 (2^(2*aT.hv (dv x) p+22)) (aT.w2 (dv x) p) (p+32)))
def sp(x:gQ)(p:Int):Prop×List D:=(aIP x p,
 [wG (sW (dv x) p) (sA (dv x) p)])
theorem spec:hI E f160 aF jO (pN .i64) sp:=by
 rintro x p ⟨hx,⟨p0,p1⟩,h⟩;refine(start x.1 x.2.1 x.2.2 p).trans ?_;have hz:=M6.eF hx.Jy;have hl:=hx.len;have he:=hx.2.1;have ha:(dv x).1.natAbs=M6.val x.2.1:=iT (x.1,x.2.1);have aYG:(x.1,x.2.1,x.2.2)=x:=rfl;have n1:aN 1 0=(1,0):=by decide +kernel
 have v1:wv (isNeg 1,M6.dg (cIQ 1))=1:=nW 1;have hT:(if(dv x).1=0 then 0 else x.2.2+(bl (M6.val x.2.1):Int)-1)=aT.jG (dv x):=by rw[<-ha];rfl
 have k1:gY (isNeg 1,M6.dg 1):=gI (z:=1) (by decide +kernel);have pn:kE (1,0):=⟨by decide +kernel,⟨by decide,by decide⟩,fun h=>absurd h (by decide),fun _=>by decide⟩;unfold sp sW sA;dsimp only
 by_cases c0:(dv x).1=0
 ·rw[cD (by have:=hz.2 (by omega);omega),gP ⟨by decide,by decide⟩,if_pos c0,if_pos c0];simp only[aH,n1];rfl
 ·obtain⟨t0,hA,hB⟩:=h c0;have tt:=hx.wL.top;have l0:x.2.1.length≠0:=fun hc=>c0 (by have:=hz.1 hc;omega)
  simp only[aYG,hT,aH,n1,v1];rw[bJ,if_neg c0,if_neg c0];have tU:aT.jG (dv x)<=1572864:=by unfold aT.jG;rw[if_neg c0];exact tt.2
  have w1:i64.wrap (i64.wrap (2*aT.jG (dv x))+8)=2*aT.jG (dv x)+8:=by rw[wrap_i64 (n:=2*aT.jG (dv x)),wrap_i64]
  have w2:i64.wrap (0-p)=-p:=by rw[wrap_i64];omega
  have w3:i64.wrap (-p-3)=-p-3:=wrap_i64;have w4:i64.wrap (p+32)=p+32:=wrap_i64;simp only[w1,w2,w3,w4];rw[gP hx]
  by_cases c1:2*aT.jG (dv x)+8 < -p
  ·have b1:bl (cIQ 1)=1:=rfl;have i1:iF 1 (-p-3)=true:=iD (by omega) (by rw[b1];omega);have m1:aN 1 (-p-3)=(1,-p-3):=by
    unfold aN;rw[if_neg (by decide),show tz (cIQ 1)=0 from by decide +kernel];simp
   have pg:kE (1,-p-3):=m1▸gZ i1 (by decide +kernel);have d1:=dP pn;have d2:=dP pg;have e1:=dX ((1,0):Int×Int);have e2:=dX ((1,-p-3):Int×Int);rw[aQ c1,if_pos c1,if_pos c1];simp only[i1,m1,cond_true,e1,e2,hA c1];rw[gP ⟨by decide,by decide⟩,gP ⟨k1,by omega,by omega⟩,gP ⟨by decide,by decide⟩,gP ⟨d1,d2⟩,gP ⟨by decide,by decide⟩];rfl
  ·obtain⟨⟨b1,b2⟩,a1,a2,a3,a4,a5,a6⟩:=hB c1;rw[aL c1,if_neg c1,if_neg c1];simp only[M6.bZ];rw[gP ⟨hx,⟨by omega,by omega⟩,b1,b2⟩,gP ⟨M6.aZ _,M6.aZ _,a1,a2,a3,⟨by omega,by omega⟩,a4,a5,a6⟩];rfl
def aJ:dK:=orc2 jO (pN .i64) sp
theorem ok:OK 160 aJ:=(fJ E aF (aA Pa.ok (aA Cc.ok (aA jQ.ok (aA aJB.ok (aA Wg.ok (aA aQM.ok (aA aT.ok (aA bM.ok aD)))))))) func160).nF rfl spec
end bI
namespace kW
def E:=mE [(67,wF.aJ),(68,aQN.aJ)] 27 [] [] []
def aF:=bd f20
theorem aX:Nk E aF:=nk
theorem start a b c d e f:aI E f20 aF [D.agg [sc (bool a),ints u64 b,sc (int i64 c),sc (bool d),ints u64 e,sc (int i64 f)]]=letI B:=dv (a,b,c);letI A:=dv (d,e,f);aO (fA (a,b,c,d,e,f)) (aO (aR (d,e,f)) (aC (isNeg (-A.fst)) fun g=>aC (M6.dg (-A.fst).natAbs) fun h=>aC A.snd fun i=>aO (aR (a,b,c)) (aC (isNeg (-B.fst)) fun j=>aC (M6.dg (-B.fst).natAbs) fun k=>aC B.snd fun l=>some [D.agg [sc (bool g),ints u64 h,sc (int i64 i),sc (bool j),ints u64 k,sc (int i64 l)],D.s (sc (int i64 0))]))):=eJ aX
def xK(p:Int×Int):Int×Int:=(-p.1,p.2)
def sp(s:yA):Prop×List D:=(fA s,[wG (xK (dv (iI s))) (xK (dv (iH s))),.s (.sc (.int .i64 0))])
theorem spec:jL E f20 aF zQ sp:=by
 intro s h;have h:fA s:=h;have hL:aR (s.1,s.2.1,s.2.2.1):=h.1;have hH:aR (s.2.2.2.1,s.2.2.2.2.1,s.2.2.2.2.2):=h.2.1;refine(start s.1 s.2.1 s.2.2.1 s.2.2.2.1 s.2.2.2.2.1 s.2.2.2.2.2).trans ?_;simp only[aH];rw[gP h,gP hH]
 (try simp only[aH])
 rw[gP hL];rfl
def aJ:dK:=orc1 zQ sp
theorem ok:OK 20 aJ:=(fJ E aF (aA wF.ok (aA aQN.ok aD)) func20).qB rfl spec
end kW
namespace It
def E:=mE [(20,kW.aJ)] 12 [] [] []
def aF:=bd f204
theorem aX:Nk E aF:=nk
theorem start a c d e f g b:aI E f204 aF [D.agg [sc (bool a),ints u64 c,sc (int i64 d),sc (bool e),ints u64 f,sc (int i64 g)],D.s (sc (bool b))]=letI A:=(a,c,d,e,f,g);letI C:=dv (iH A);letI B:=dv (iI A);aB b (aO (fA A) (some [D.agg [sc (bool (isNeg (-B.fst))),ints u64 (M6.dg (-B.fst).natAbs),sc (int i64 B.snd),sc (bool (isNeg (-C.fst))),ints u64 (M6.dg (-C.fst).natAbs),sc (int i64 C.snd)]])) (some [D.agg [sc (bool a),ints u64 c,sc (int i64 d),sc (bool e),ints u64 f,sc (int i64 g)]]):=eJ aX
def sp(s:yA)(b:Bool):Prop×List D:=(fA s,[wG (bif b then kW.xK (dv (iI s))else dv (iH s)) (bif b then kW.xK (dv (iH s))else dv (iI s))])
theorem spec:hI E f204 aF zQ pB sp:=by
 intro s b h;have h:fA s:=id h;refine(start s.1 s.2.1 s.2.2.1 s.2.2.2.1 s.2.2.2.2.1 s.2.2.2.2.2 b).trans ?_;unfold sp;cases b with
 |true =>
  show aO _ _=_;have h':fA (s.1,s.2.1,s.2.2.1,s.2.2.2.1,s.2.2.2.2.1,s.2.2.2.2.2):=h;rw[gP h'];rfl
 |false =>
  dsimp only[cond_false];rw[h.wG]
def aJ:dK:=orc2 zQ pB sp
theorem ok:OK 204 aJ:=(fJ E aF (aA kW.ok aD) func204).nF rfl spec
end It
namespace fV
def E:=mE [(202,Pa.aJ),(203,Cc.aJ),(163,bBG.aJ),(162,Po.aJ),(50,jQ.aJ),(51,aJB.aJ),(59,Wg.aJ),(204,It.aJ),(205,aT.aJ),(206,bM.aJ)] 92 [] [] []
def aF:=bd f157
theorem aX:Nk E aF:=nk
theorem start a c d b:aI E f157 aF [D.agg [sc (bool a),ints u64 c,sc (int i64 d)],D.s (sc (int i64 b))]=letI F1:=wv (isNeg 1,M6.dg (cIQ 1));letI B1:=aN 0 0;letI I1:=M6.dg B1.fst.natAbs;letI A1:=dv (false,c,d);letI X:=aR (false,c,d)/\1<=i64.wrap (b+32)/\i64.wrap (b+32)<=70000;letI W:=dv (a,c,d);letI U:=i64.wrap (b+32);letI B:=cS.oM true A1.fst A1.snd U;letI O:=bif iF B.fst B.snd then aN B.fst B.snd else((0:Int),(0:Int));letI A:=cS.oM false A1.fst A1.snd U;letI P:=bif iF A.fst A.snd then aN A.fst A.snd else((0:Int),(0:Int));aB ((c.length:Int)==(0:Int)) (aO ((-1000000:Int)<=(0:Int)/\(0:Int)<=(1000000:Int)) (aC (isNeg B1.fst) fun e=>aC I1 fun f=>aC B1.snd fun g=>aC (isNeg B1.fst) fun h=>aC I1 fun i=>aC B1.snd fun j=>some [D.agg [sc (bool e),ints u64 f,sc (int i64 g),sc (bool h),ints u64 i,sc (int i64 j)]])) (aO (aR (a,c,d)) (aC (if W.fst=0 then(0:Int)else d+(↑(bl (M6.val c)):Int)-(1:Int)) fun k=>letI Y:=i64.wrap (k-b)-3;letI C:=bif iF F1 (i64.wrap Y)then aN F1 (i64.wrap Y)else((0:Int),(0:Int));aB (decide (i64.wrap (i64.wrap ((2:Int)*k)+8)<i64.wrap ((0:Int)-b))) (aO X (aC (isNeg O.fst) fun l=>aC (M6.dg O.fst.natAbs) fun m=>aC O.snd fun n=>aO X (aC (isNeg P.fst) fun o=>aC (M6.dg P.fst.natAbs) fun p=>aC P.snd fun q=>aO ((-9223372036854775808:Int)<=(1:Int)/\(1:Int)<(9223372036854775808:Int)) (aO (gY (isNeg 1,M6.dg 1)/\(-9223372036854775808:Int)<=i64.wrap Y/\i64.wrap Y<9223372036854775808) (aC (isNeg C.fst) fun r=>aC (M6.dg C.fst.natAbs) fun s=>aC C.snd fun t=>letI G1:=dv (r,s,t);letI F:=bif bQ.kT (dv (o,p,q)) (-G1.fst,G1.snd)then bQ.oA (dv (o,p,q)) (-G1.fst,G1.snd)else((0:Int),(0:Int));aO (aR (o,p,q)/\aR (r,s,t)) (aC (isNeg F.fst) fun u=>aC (M6.dg F.fst.natAbs) fun v=>aC F.snd fun w=>letI Z:=(u,v,w,l,m,n);letI K:=bif a then kW.xK (dv (iH Z))else dv (iI Z);letI I:=bif a then kW.xK (dv (iI Z))else dv (iH Z);aO (fA Z) (aC (isNeg I.fst) fun x=>aC (M6.dg I.fst.natAbs) fun y=>aC I.snd fun z=>aC (isNeg K.fst) fun aa=>aC (M6.dg K.fst.natAbs) fun ab=>aC K.snd fun ac=>some [D.agg [sc (bool x),ints u64 y,sc (int i64 z),sc (bool aa),ints u64 ab,sc (int i64 ac)]]))))))) (aO (aR (a,c,d)/\(1<=b/\b<=70000)/\((-70000:Int)<=aT.jG W/\aT.jG W<=100)/\aT.bU W b<=(2:Nat)^(aT.w1 W b).toNat) (aC (M6.dg (aT.Dp W b).fst) fun ad=>letI K1:=M6.val ad;aC (M6.dg ((2:Nat)^((2:Nat)*aT.hv W b+22))) fun ae=>letI N1:=M6.val ae;aC (aT.w2 W b) fun af=>letI D1:=bM.Du K1 N1 af;letI C1:=bM.Kg K1 N1 af;letI N:=M.shD false C1 U;letI G:=M.shD true D1 U;letI H1:=bM.zC G;aO (M6.cV ad/\M6.cV ae/\bl K1<=500000/\bl N1<=500000/\(0<=af/\af<=500000)/\(1<=i64.wrap (b+32)/\i64.wrap (b+32)<=70000)/\yD false C1 U=true/\yD true D1 U=true/\kE G) (aC (isNeg N.fst) fun ag=>aC (M6.dg N.fst.natAbs) fun ah=>aC N.snd fun ai=>aC (isNeg H1.fst) fun aj=>aC (M6.dg H1.fst.natAbs) fun ak=>aC H1.snd fun al=>letI H:=(ag,ah,ai,aj,ak,al);letI T:=bif a then kW.xK (dv (iH H))else dv (iI H);letI Q:=bif a then kW.xK (dv (iI H))else dv (iH H);aO (fA H) (aC (isNeg Q.fst) fun am=>aC (M6.dg Q.fst.natAbs) fun an=>aC Q.snd fun ao=>aC (isNeg T.fst) fun ap=>aC (M6.dg T.fst.natAbs) fun aq=>aC T.snd fun ar=>some [D.agg [sc (bool am),ints u64 an,sc (int i64 ao),sc (bool ap),ints u64 aq,sc (int i64 ar)]])))))):=eJ aX
def uM(x:Int×Int)(p:Int):Int×Int:=if 2*aT.jG x+8 < -p then bQ.oA (shD false ((x.1.natAbs:Int),x.2) (p+32)) (-1,aT.jG x-p-3)else shD false (bM.Kg (aT.Dp x p).1 (2^(2*aT.hv x p+22)) (aT.w2 x p)) (p+32)
def tH(x:Int×Int)(p:Int):Int×Int:=if 2*aT.jG x+8 < -p then shD true ((x.1.natAbs:Int),x.2) (p+32)else bM.zC (shD true (bM.Du (aT.Dp x p).1 (2^(2*aT.hv x p+22)) (aT.w2 x p)) (p+32))
def Mh(x:Int×Int)(p:Int):Int×Int:=if x.1=0 then(0,0)else bif isNeg x.1 then kW.xK (tH x p)else uM x p
def Mi(x:Int×Int)(p:Int):Int×Int:=if x.1=0 then(0,0)else bif isNeg x.1 then kW.xK (uM x p)else tH x p
def aRR(x:gQ)(p:Int):Prop:=aR x/\(1<=p/\p<=67100)/\((dv x).1≠0->-600000<=aT.jG (dv x)/\kE (uM (dv x) p)/\kE (tH (dv x) p)/\eN (uM (dv x) p) (tH (dv x) p)<=0 /\
 (2*aT.jG (dv x)+8 < -p->yD true ((((dv x).1.natAbs:Nat):Int),(dv x).2) (p+32)=true/\yD false ((((dv x).1.natAbs:Nat):Int),(dv x).2) (p+32)=true/\kE (shD false ((((dv x).1.natAbs:Nat):Int),(dv x).2) (p+32))/\bQ.kT (shD false ((((dv x).1.natAbs:Nat):Int),(dv x).2) (p+32)) (-1,aT.jG (dv x)-p-3)=true) /\
 (¬2*aT.jG (dv x)+8 < -p->bI.Vj (dv x) p/\bI.aPT (aT.Dp (dv x) p).1 (2^(2*aT.hv (dv x) p+22)) (aT.w2 (dv x) p) (p+32)))
def sp(x:gQ)(p:Int):Prop×List D:=(aRR x p,
 [wG (Mh (dv x) p) (Mi (dv x) p)])
theorem spec:hI E f157 aF jO (pN .i64) sp:=by
 rintro x p ⟨hx,⟨p0,p1⟩,h⟩;refine(start x.1 x.2.1 x.2.2 p).trans ?_;have hz:=M6.eF hx.Jy;have he:=hx.2.1;have ha:(dv x).1.natAbs=M6.val x.2.1:=iT (x.1,x.2.1);have aYG:(x.1,x.2.1,x.2.2)=x:=rfl;have n0:aN 0 0=(0,0):=fN 0;have hT:(if(dv x).1=0 then 0 else x.2.2+(bl (M6.val x.2.1):Int)-1)=aT.jG (dv x):=by rw[<-ha];rfl
 have hN:isNeg (dv x).1=x.1:=hx.Ez.cells.1;have v1:wv (isNeg 1,M6.dg (cIQ 1))=1:=nW 1;have k1:gY (isNeg 1,M6.dg 1):=gI (z:=1) (by decide +kernel);unfold sp Mh Mi;dsimp only
 by_cases c0:(dv x).1=0
 ·rw[cD (by have:=hz.2 (by omega);omega),gP ⟨by decide,by decide⟩,if_pos c0,if_pos c0];simp only[aH,n0];rfl
 ·obtain⟨t0,q1,q2,q3,hA,hB⟩:=h c0;have tt:=hx.wL.top;have l0:x.2.1.length≠0:=fun hc=>c0 (by have:=hz.1 hc;omega)
  have tU:aT.jG (dv x)<=1572864:=by unfold aT.jG;rw[if_neg c0];exact tt.2
  simp only[aYG,hT,aH,v1];rw[bJ,if_neg c0,if_neg c0];have w1:i64.wrap (i64.wrap (2*aT.jG (dv x))+8)=2*aT.jG (dv x)+8:=by rw[wrap_i64 (n:=2*aT.jG (dv x)),wrap_i64]
  have w2:i64.wrap (0-p)=-p:=by rw[wrap_i64];omega
  have w3:i64.wrap (i64.wrap (aT.jG (dv x)-p)-3)=aT.jG (dv x)-p-3:=by rw[wrap_i64 (n:=aT.jG (dv x)-p),wrap_i64]
  have w4:i64.wrap (p+32)=p+32:=wrap_i64;simp only[w1,w2,w3,w4];rw[gP hx];have sk:fA (nM (uM (dv x) p) (tH (dv x) p)):=yH q1 q2 q3;have eL:=pQ (uM (dv x) p) (tH (dv x) p);have eH:=pS (uM (dv x) p) (tH (dv x) p);rw[hN];unfold nM at sk eL eH
  by_cases c1:2*aT.jG (dv x)+8 < -p
  ·obtain⟨s1,s2,s3,s4⟩:=hA c1;have ok:aR (false,x.2.1,x.2.2):=⟨⟨hx.1.1,fun hf=>(by cases hf),hx.1.len⟩,hx.2⟩;have vx:dv (false,x.2.1,x.2.2)=((((dv x).1.natAbs:Nat):Int),(dv x).2):=by rw[ha];rfl
   have b1:bl (cIQ 1)=1:=rfl;have i1:iF 1 (aT.jG (dv x)-p-3)=true:=iD (by omega) (by rw[b1];omega);have m1:aN 1 (aT.jG (dv x)-p-3)=(1,aT.jG (dv x)-p-3):=by
    unfold aN;rw[if_neg (by decide),show tz (cIQ 1)=0 from by decide +kernel];simp
   have pg:kE (1,aT.jG (dv x)-p-3):=m1▸gZ i1 (by decide +kernel);have e2:=dX ((1,aT.jG (dv x)-p-3):Int×Int);have d2:=dP pg;have d3:=dP s3;have e3:=dX (shD false ((((dv x).1.natAbs:Nat):Int),(dv x).2) (p+32));have bSH:iF (cS.oM true (((dv x).1.natAbs:Nat):Int) (dv x).2 (p+32)).1 (cS.oM true (((dv x).1.natAbs:Nat):Int) (dv x).2 (p+32)).2=true:=s1;have bSG:iF (cS.oM false (((dv x).1.natAbs:Nat):Int) (dv x).2 (p+32)).1 (cS.oM false (((dv x).1.natAbs:Nat):Int) (dv x).2 (p+32)).2=true:=s2;have u1:aN (cS.oM true (((dv x).1.natAbs:Nat):Int) (dv x).2 (p+32)).1 (cS.oM true (((dv x).1.natAbs:Nat):Int) (dv x).2 (p+32)).2=shD true ((((dv x).1.natAbs:Nat):Int),(dv x).2) (p+32):=rfl;have u2:aN (cS.oM false (((dv x).1.natAbs:Nat):Int) (dv x).2 (p+32)).1 (cS.oM false (((dv x).1.natAbs:Nat):Int) (dv x).2 (p+32)).2=shD false ((((dv x).1.natAbs:Nat):Int),(dv x).2) (p+32):=rfl;have dL:uM (dv x) p=bQ.oA (shD false ((((dv x).1.natAbs:Nat):Int),(dv x).2) (p+32)) (-1,aT.jG (dv x)-p-3):=if_pos c1;have dH:tH (dv x) p=shD true ((((dv x).1.natAbs:Nat):Int),(dv x).2) (p+32):=if_pos c1;rw[aQ c1];simp only[vx,bSH,bSG,u1,u2,i1,m1,cond_true,e2,e3,s4];rw[gP ⟨ok,by omega,by omega⟩,gP ⟨ok,by omega,by omega⟩,gP ⟨by decide,by decide⟩,gP ⟨k1,by omega,by omega⟩,gP ⟨d3,d2⟩,<-dL,<-dH,gP sk,eL,eH];rfl
  ·obtain⟨⟨b1,b2⟩,a1,a2,a3,a4,a5,a6⟩:=hB c1;have dL:uM (dv x) p=shD false (bM.Kg (aT.Dp (dv x) p).1 (2^(2*aT.hv (dv x) p+22)) (aT.w2 (dv x) p)) (p+32):=if_neg c1;have dH:tH (dv x) p=bM.zC (shD true (bM.Du (aT.Dp (dv x) p).1 (2^(2*aT.hv (dv x) p+22)) (aT.w2 (dv x) p)) (p+32)):=if_neg c1;rw[aL c1];simp only[M6.bZ];rw[gP ⟨hx,⟨by omega,by omega⟩,b1,b2⟩,gP ⟨M6.aZ _,M6.aZ _,a1,a2,a3,⟨by omega,by omega⟩,a4,a5,a6⟩,<-dL,<-dH,gP sk,eL,eH];rfl
def aJ:dK:=orc2 jO (pN .i64) sp
theorem ok:OK 157 aJ:=(fJ E aF (aA Pa.ok (aA Cc.ok (aA bBG.ok (aA Po.ok (aA jQ.ok (aA aJB.ok (aA Wg.ok (aA It.ok (aA aT.ok (aA bM.ok aD)))))))))) func157).nF rfl spec
end fV
end W
namespace R
def Rz(F D X p q p' q':Nat):Bool :=
 bYW 9007199254740992 q'&&((bYU (p*q') (p'*q+1)||bYU (p'*q) (p*q'+1)) &&
 ((bYW (p*(F+1)+D) (q*X)&&bYW (q'*X) (p'*F))||(bYW (q*X+D) (p*F)&&bYW (p'*(F+1)) (q'*X))))
def bCH(F D X:Nat)(f:Nat):Nat->Nat->Nat->Nat->Nat->Nat->Bool:=Nat.rec (motive:=fun _=>Nat->Nat->Nat->Nat->Nat->Nat->Bool) (fun _ _ _ _ _ _=>false)
 (fun _ ih a b p q p' q'=>cond (bYW 9007199254740992 q') (Rz F D X p q p' q') (gU (a/b) fun t=>gU (a-t*b) fun r=>gU (t*p'+p) fun p2=>gU (t*q'+q) fun q2=>ih b r p' q' p2 q2)) f
def aTV(F D:Nat)(n:Nat):Nat->Bool:=Nat.rec (motive:=fun _=>Nat->Bool) (fun _=>true) (fun _ ih X=>bCH F D X 80 X F 0 1 1 0&&gU (2*X) fun X'=>ih X') n
def bGV(w n:Nat):Bool :=
 Prod.rec (motive:=fun _=>Bool) (fun t5 s5=>Prod.rec (motive:=fun _=>Bool) (fun t239 mN =>
  bYW (4*mN) (16*s5)&&(bYU t5 0&&(bYU t239 0 &&
  gU ((16*s5-4*mN)/2^64) fun F=>gU (2^(w-64-62)) fun D=>gU (2^(w-64-53)) fun X =>
  bYU (((16*s5-4*mN)+2^40)/2^64) F&&(bYU (((16*s5-4*mN)-2^40)/2^64) F&&aTV F D n X))))
  (aAE 239 w 10 10)) (aAE 5 w 20 20)
theorem bTB{L L' s m k p q p' q' P X:Rat}(hL:L=q*X-p*P)(bIN:L'=q'*X-p'*P)(hs:s*s=1)(aNO:p*q'-p'*q=s):m*X-k*P=s*(k*q'-m*p')*L+s*(m*p-k*q)*L':=by
 subst hL;subst bIN;have e1:s*(k*q'-m*p')*(q*X-p*P)+s*(m*p-k*q)*(q'*X-p'*P)=s*(p*q'-p'*q)*(m*X-k*P):=by grind
 rw[e1,aNO,hs];grind
theorem Xj{a b:Bool}(h:(a||b)=true):a=true\/b=true:=by simpa using h
theorem vP{a:Int}(h:0<a):(1:Rat)<=(a:Rat):=by exact_mod_cast h
theorem aTO {F D X p q p' q' : Nat} (h : Rz F D X p q p' q' = true) {P : Rat} (h1 : (F : Rat) ≤ P) (h2 : P ≤ (F : Rat) + 1) {m k : Int} (hm : 0 < m) (aYP : m < 9007199254740992) : (D : Rat) ≤ ab ((m : Rat) * (X : Rat) - (k : Rat) * P) := by
  unfold Rz at h
  obtain ⟨c1, h⟩ := fR h
  obtain ⟨c2, c3⟩ := fR h
  have c1 := cAR c1
  obtain ⟨s, hs, aNO⟩ : ∃ s : Int, s * s = 1 ∧ (p : Int) * q' - p' * q = s := by
    rcases Xj c2 with h | h
    · have := bZI h
      exact ⟨1, rfl, by have : (p : Int) * q' = p' * q + 1 := by exact_mod_cast this
                        omega⟩
    · have := bZI h
      exact ⟨-1, rfl, by have : (p' : Int) * q = p * q' + 1 := by exact_mod_cast this
                         omega⟩
  obtain ⟨a, ha⟩ : ∃ a : Int, a = s * (k * q' - m * p') := ⟨_, rfl⟩
  obtain ⟨b, hb⟩ : ∃ b : Int, b = s * (m * p - k * q) := ⟨_, rfl⟩
  have hmab : m = a * q + b * q' := by
    have : a * q + b * q' = s * (p * q' - p' * q) * m := by rw [ha, hb]; grind
    rw [this, aNO, hs]; omega
  obtain ⟨L, hL⟩ : ∃ L : Rat, L = (q : Rat) * X - (p : Rat) * P := ⟨_, rfl⟩
  obtain ⟨L', bIN⟩ : ∃ L' : Rat, L' = (q' : Rat) * X - (p' : Rat) * P := ⟨_, rfl⟩
  have bPM : (s : Rat) * (s : Rat) = 1 := by exact_mod_cast hs
  have aHY : (p : Rat) * q' - p' * q = (s : Rat) := by
    have := congrArg (Int.cast : Int → Rat) aNO
    rw [cMU, cKB, cKB, cKC, cKC, cKC, cKC] at this
    exact this
  have aYQ := bTB (m := (m : Rat)) (k := (k : Rat)) hL bIN bPM aHY
  have bRD : (s : Rat) * ((k : Rat) * q' - m * p') = (a : Rat) := by
    rw [ha]; push_cast; rfl
  have bRC : (s : Rat) * ((m : Rat) * p - k * q) = (b : Rat) := by
    rw [hb]; push_cast; rfl
  rw [bRD, bRC] at aYQ
  rw [aYQ]
  have bBQ : (0 : Int) ≤ q := by omega
  have hq'0 : (9007199254740992 : Int) ≤ q' := by omega
  have aNE : (0 : Rat) ≤ (p : Rat) := by exact_mod_cast cEU p
  have bEN : (0 : Rat) ≤ (p' : Rat) := by exact_mod_cast cEU p'
  have bBP : ((D : Rat) ≤ L ∧ L' ≤ 0) ∨ ((D : Rat) ≤ -L ∧ 0 ≤ L') := by
    rcases Xj c3 with h | h
    · obtain ⟨d1, d2⟩ := fR h
      have d1 : ((p * (F + 1) + D : Nat) : Rat) ≤ ((q * X : Nat) : Rat) := by exact_mod_cast cAR d1
      have d2 : ((q' * X : Nat) : Rat) ≤ ((p' * F : Nat) : Rat) := by exact_mod_cast cAR d2
      push_cast at d1 d2
      have := aE aNE (show 0 ≤ (F : Rat) + 1 - P by grind)
      have := aE bEN (show 0 ≤ P - (F : Rat) by grind)
      left
      constructor <;> grind
    · obtain ⟨d1, d2⟩ := fR h
      have d1 : ((q * X + D : Nat) : Rat) ≤ ((p * F : Nat) : Rat) := by exact_mod_cast cAR d1
      have d2 : ((p' * (F + 1) : Nat) : Rat) ≤ ((q' * X : Nat) : Rat) := by exact_mod_cast cAR d2
      push_cast at d1 d2
      have := aE aNE (show 0 ≤ P - (F : Rat) by grind)
      have := aE bEN (show 0 ≤ (F : Rat) + 1 - P by grind)
      right
      constructor <;> grind
  have hD0 : (0 : Rat) ≤ (D : Rat) := by exact_mod_cast cEU D
  clear aYQ bRD bRC aHY bPM hL bIN ha hb aNO hs c2 c3
  rcases Int.lt_trichotomy b 0 with hb | hb | hb
  · have aTL : 0 < a := by
      refine Int.not_le.1 fun hn => ?_
      have := cKE (show 0 ≤ -a by omega) bBQ
      have := cKE (show 0 ≤ -b by omega) (show (0 : Int) ≤ q' by omega)
      rw [cID] at *
      omega
    have r1 := vP aTL
    have r2 := vP (show 0 < -b by omega)
    have r2 : (1 : Rat) ≤ -(b : Rat) := by rw [← cLS]; exact r2
    rcases bBP with ⟨g1, g2⟩ | ⟨g1, g2⟩
    · have := aE (show 0 ≤ (a : Rat) - 1 by grind) (show 0 ≤ L by grind)
      have := aE (show 0 ≤ -(b : Rat) by grind) (show 0 ≤ -L' by grind)
      have := Dm ((a : Rat) * L + (b : Rat) * L')
      grind
    · have := aE (show 0 ≤ (a : Rat) - 1 by grind) (show 0 ≤ -L by grind)
      have := aE (show 0 ≤ -(b : Rat) by grind) (show 0 ≤ L' by grind)
      have := oH ((a : Rat) * L + (b : Rat) * L')
      grind
  · subst hb
    have aTL : 0 < a := by
      refine Int.not_le.1 fun hn => ?_
      have := cKE (show 0 ≤ -a by omega) bBQ
      rw [cID] at *
      omega
    have r1 := vP aTL
    have z : ((0 : Int) : Rat) = 0 := by norm_cast
    rw [z]
    rcases bBP with ⟨g1, g2⟩ | ⟨g1, g2⟩
    · have := aE (show 0 ≤ (a : Rat) - 1 by grind) (show 0 ≤ L by grind)
      have := Dm ((a : Rat) * L + 0 * L')
      grind
    · have := aE (show 0 ≤ (a : Rat) - 1 by grind) (show 0 ≤ -L by grind)
      have := oH ((a : Rat) * L + 0 * L')
      grind
  · have aTL : a < 0 := by
      refine Int.not_le.1 fun hn => ?_
      have := cKE hn bBQ
      have := cBD (show 1 ≤ b by omega) (show (0 : Int) ≤ q' by omega)
      omega
    have r1 := vP (show 0 < -a by omega)
    have r1 : (1 : Rat) ≤ -(a : Rat) := by rw [← cLS]; exact r1
    have r2 := vP hb
    rcases bBP with ⟨g1, g2⟩ | ⟨g1, g2⟩
    · have := aE (show 0 ≤ -(a : Rat) - 1 by grind) (show 0 ≤ L by grind)
      have := aE (show 0 ≤ (b : Rat) by grind) (show 0 ≤ -L' by grind)
      have := oH ((a : Rat) * L + (b : Rat) * L')
      grind
    · have := aE (show 0 ≤ -(a : Rat) - 1 by grind) (show 0 ≤ -L by grind)
      have := aE (show 0 ≤ (b : Rat) by grind) (show 0 ≤ L' by grind)
      have := Dm ((a : Rat) * L + (b : Rat) * L')
      grind
theorem aZS{F D X:Nat}:∀(f a b p q p' q':Nat),bCH F D X f a b p q p' q'=true->∃p q p' q',Rz F D X p q p' q'=true:=by
 intro f
 induction f with
 |zero=>intro a b p q p' q' h;exact absurd h (by simp[bCH])
 |succ f ih =>
  intro a b p q p' q' h;have e:bCH F D X (f+1) a b p q p' q'=cond (bYW 9007199254740992 q') (Rz F D X p q p' q') (gU (a/b) fun t=>gU (a-t*b) fun r=>gU (t*p'+p) fun p2=>gU (t*q'+q) fun q2=>bCH F D X f b r p' q' p2 q2):=rfl;rw[e]at h;cases hc:bYW 9007199254740992 q' with
  |true=>rw[hc]at h;exact⟨_,_,_,_,h⟩
  |false =>
   rw[hc,cond_false,fH,fH,fH,fH]at h;exact ih _ _ _ _ _ _ h
theorem aTU{F D:Nat}:∀(n X:Nat),aTV F D n X=true->∀i,i<n->∃p q p' q',Rz F D (2^i*X) p q p' q'=true:=by
 intro n
 induction n with
 |zero=>intro X _ i hi;omega
 |succ n ih =>
  intro X h i hi;have e:aTV F D (n+1) X=(bCH F D X 80 X F 0 1 1 0&&gU (2*X) fun X'=>aTV F D n X'):=rfl;rw[e,fH]at h;obtain⟨h1,h2⟩:=fR h;cases i with
  |zero =>
   rw[Nat.pow_zero,cCX];exact aZS _ _ _ _ _ _ _ h1
  |succ i =>
   have:=ih _ h2 i (by omega);rw[cDS,cDV];exact this
theorem bNS:bGV 1464 1030=true:=by kernel_rfl
theorem aST{s5 mN:Nat}{W a b:Rat}(hle:4*mN<=16*s5)(h5:ab ((s5:Rat)-W*Zf 5)<=a)(Us:ab ((mN:Rat)-W*Zf 239)<=b):ab (((16*s5-4*mN:Nat):Rat)-W*pi)<=16*a+4*b:=by
 have hc:((16*s5-4*mN:Nat):Rat)+4*(mN:Rat)=16*(s5:Rat):=by exact_mod_cast(show 16*s5-4*mN+4*mN=16*s5 by omega)
 unfold pi;rw[aY]at *;grind
theorem aBE{m k:Int}{i:Nat}(hi:i<1030)(hm:0<m)(aYP:m<9007199254740992):1/4611686018427387904<=ab ((m:Rat)*((2^i:Nat):Rat)/9007199254740992-(k:Rat)*pi):=by
 have h:=bNS;unfold bGV at h;have h5:=Iq (n:=5) (by omega) 1464 20 20 (by omega);have Us:=Iq (n:=239) (by omega) 1464 10 10 (by omega);generalize hw:(1464:Nat)=w at *;generalize aAE 5 w 20 20=A at *;generalize aAE 239 w 10 10=B at *;obtain⟨t5,s5⟩:=A;obtain⟨t239,mN⟩:=B;dsimp only at *;obtain⟨bRR,h⟩:=fR h;obtain⟨z5,h⟩:=fR h;obtain⟨aWW,h⟩:=fR h;rw[fH,fH,fH]at h;obtain⟨q1,h⟩:=fR h;obtain⟨q2,h⟩:=fR h;have q1:=bZI q1;have q2:=bZI q2;have h5:=h5 (bZI z5);have Us:=Us (bZI aWW);obtain⟨p,q,p',q',hg⟩:=aTU _ _ h i hi;have aNW:ab (((16*s5-4*mN:Nat):Rat)-((2^w:Nat):Rat)*pi)<=524288:=by
  have:=aST (cAR bRR) h5 Us;refine cDY this ?_;have n1:((2*(20*20):Nat):Rat)=800:=by norm_cast
  have n2:((2*(10*10):Nat):Rat)=200:=by norm_cast
  rw[n1,n2];grind
 generalize 16*s5-4*mN=P at *;have aOU:=uE w (by omega);have lo:((P/2^64:Nat):Rat)<=((2^(w-64):Nat):Rat)*pi:=by
  have:2^64*(P/2^64)<=P-2^40:=by
   have:=Nat.mul_div_le (P-2^40) (2^64);rwa [q2]at this
  have hz:P/2^64=0\/2^64*(P/2^64)+2^40<=P:=by omega
  rcases hz with hz |h2
  ·rw[hz];have h3:(0:Rat)<=((2^(w-64):Nat):Rat):=by exact_mod_cast cEU _
   have:=aE h3 (cEA (show 0<pi from by have:=eY.1;grind));have z:((0:Nat):Rat)=0:=by norm_cast
   rw[z];exact this
  ·have h3:((2^64:Nat):Rat)*((P/2^64:Nat):Rat)+((2^40:Nat):Rat)<=(P:Rat):=by exact_mod_cast h2
   rw[aOU,cFL,aY]at aNW;have n1:((2^64:Nat):Rat)=18446744073709551616:=by norm_cast
   have n2:((2^40:Nat):Rat)=1099511627776:=by norm_cast
   rw[n1]at aNW h3;rw[n2]at h3;refine cG (q:=18446744073709551616) (by grind) ?_;generalize ((2^(w-64):Nat):Rat)=W at *;grind
 have aFI:((2^(w-64):Nat):Rat)*pi<=((P/2^64:Nat):Rat)+1:=by
  have:P+2^40<2^64*(P/2^64+1):=by
   have:=Nat.lt_mul_div_succ (P+2^40) (show 0<2^64 by omega);rwa [q1]at this
  have h3:(P:Rat)+((2^40:Nat):Rat)<((2^64:Nat):Rat)*(((P/2^64:Nat):Rat)+1):=by exact_mod_cast this
  rw[aOU,cFL,aY]at aNW;have n1:((2^64:Nat):Rat)=18446744073709551616:=by norm_cast
  have n2:((2^40:Nat):Rat)=1099511627776:=by norm_cast
  rw[n1]at aNW h3;rw[n2]at h3;refine cG (q:=18446744073709551616) (by grind) ?_;generalize ((2^(w-64):Nat):Rat)=W at *;grind
 have bQB:=aTO hg lo aFI (k:=k) hm aYP;have eD:((2^(w-64):Nat):Rat)=((2^(w-64-62):Nat):Rat)*4611686018427387904:=by
  have:2^(w-64)=2^(w-64-62)*2^62:=by rw[<-cDU];congr 1;omega
  rw[this,cFL];congr 1
 have eX:((2^(w-64):Nat):Rat)=((2^(w-64-53):Nat):Rat)*9007199254740992:=by
  have:2^(w-64)=2^(w-64-53)*2^53:=by rw[<-cDU];congr 1;omega
  rw[this,cFL];congr 1
 have aNU:(0:Rat)<((2^(w-64):Nat):Rat):=by exact_mod_cast cZ
 have hWp2:(0:Rat)<((2^(w-64-62):Nat):Rat):=by exact_mod_cast cZ
 have e:(m:Rat)*((2^i*2^(w-64-53):Nat):Rat)-(k:Rat)*(((2^(w-64):Nat):Rat)*pi)=((2^(w-64):Nat):Rat)*((m:Rat)*((2^i:Nat):Rat)/9007199254740992-(k:Rat)*pi):=by
  rw[cFL,eX];grind
 rw[e,fX,bP (cEA aNU)]at bQB;refine cG aNU ?_;rw[eD]at bQB ⊢;grind
end R
namespace R
def bHD(x:Rat):Prop:=∃m e:Int,0<m/\m<9007199254740992/\-53<=e/\e<=971/\(x=(m:Rat)*pz e\/x=-((m:Rat)*pz e))
theorem Xr{x:Rat}(h:bHD x){j:Nat}(hj:j=1\/j=2)(k:Int):1/4611686018427387904<=ab (((2^j:Nat):Rat)*x-(k:Rat)*pi):=by
 obtain⟨m,e,m0,m1,e0,e1,hx⟩:=h;obtain⟨i,hi⟩:=cDX (show 0<=e+53+(j:Int) by omega);have ep:((2^j:Nat):Rat)*((m:Rat)*pz e)=(m:Rat)*((2^i:Nat):Rat)/9007199254740992:=by
  have h1:pz (e+53+(j:Int))=((2^i:Nat):Rat):=by rw[hi,lP]
  rw[dZ,iU]at h1;have h2:pz 53=9007199254740992:=by rw[show(53:Int)=((53:Nat):Int)from rfl,lP];norm_cast
  rw[h2]at h1;rw[<-h1];grind
 rcases hx with rfl |rfl
 ·have:=aBE (i:=i) (k:=k) (by omega) m0 m1;rw[ep];exact this
 ·have:=aBE (i:=i) (k:=-k) (by omega) m0 m1;rw[<-ep,cLS]at this;have e2:ab (((2^j:Nat):Rat)*-((m:Rat)*pz e)-(k:Rat)*pi)=ab (((2^j:Nat):Rat)*((m:Rat)*pz e) - -(k:Rat)*pi):=by rw[<-iV];congr 1;grind
  rw[e2];exact this
def rA(x:Rat)(k:Int):Prop:=ab (x-(k:Rat)*(pi/2))<=pi/4+1/36893488147419103232
def Fit(x:Rat):Prop:=bHD x\/ab x<=3/4
theorem aDZ{x:Rat}(h:ab x<=3/4){k:Int}(hk:rA x k):k=0:=by
 obtain⟨p1,p2⟩:=eY;unfold rA at hk;rw[aY]at hk h;refine Classical.byContradiction fun Be=>?_
 by_cases c:1<=k
 ·have c1:(1:Rat)<=(k:Rat):=by exact_mod_cast c
  have:=aE (show 0<=(k:Rat)-1 by grind) (show 0<=pi by grind);grind
 ·have c1:(k:Rat)<=-1:=by
   have:(k:Rat)<=((-1:Int):Rat):=Rat.intCast_le_intCast.2 (by omega);rwa [show((-1:Int):Rat)=-1 by norm_cast]at this
  have:=aE (show 0<=-1-(k:Rat) by grind) (show 0<=pi by grind);grind
theorem aDJ{x:Rat}(h:Fit x){k l:Int}(hk:rA x k)(hl:rA x l):¬k<l:=by
 intro kD;rcases h with h |h
 ·obtain⟨p1,p2⟩:=eY;unfold rA at hk hl;rw[aY]at hk hl
  by_cases e:l=k+1
  ·subst e;have c1:((k+1:Int):Rat)=(k:Rat)+1:=by norm_cast
   rw[c1]at hl;have n:=Xr h (j:=2) (Or.inr rfl) (2*k+1);have c2:((2*k+1:Int):Rat)=2*(k:Rat)+1:=by norm_cast
   have c3:((2^2:Nat):Rat)=4:=by norm_cast
   rw[c2,c3]at n;have:ab (4*x-(2*(k:Rat)+1)*pi)<=1/9223372036854775808:=by rw[aY];constructor <;> grind
   grind
  ·have c1:(k:Rat)+2<=(l:Rat):=by
    have:((k+2:Int):Rat)<=(l:Rat):=by exact_mod_cast(show k+2<=l by omega)
    rwa [show((k+2:Int):Rat)=(k:Rat)+2 by norm_cast]at this
   have:=aE (show 0<=(l:Rat)-(k:Rat)-2 by grind) (show 0<=pi by grind);grind
 ·have:=aDZ h hk;have:=aDZ h hl;omega
theorem aWZ{x:Rat}(h:Fit x){k l:Int}(hk:rA x k)(hl:rA x l):k=l:=by
 have:=aDJ h hk hl;have:=aDJ h hl hk;omega
theorem aXM{x:Rat}(h:bHD x)(k:Int):1/9223372036854775808<=ab (x-(k:Rat)*(pi/2)):=by
 have n:=Xr h (j:=1) (Or.inl rfl) k;have c3:((2^1:Nat):Rat)=2:=by norm_cast
 have e:((2^1:Nat):Rat)*x-(k:Rat)*pi=2*(x-(k:Rat)*(pi/2)):=by rw[c3];grind
 rw[e,fX,bP (show(0:Rat)<=2 by grind)]at n;grind
theorem qD{x:Rat}{k:Int}(h:rA x k):ab (x-(k:Rat)*(pi/2))<=79/100:=by
 obtain⟨p1,p2⟩:=eY;unfold rA at h;grind
theorem aPD(r:Rat):cs (ab r)=cs r:=by
 unfold ab;split
 ·rfl
 ·rw[yW]
theorem aLK{r:Rat}(h:ab r<=1):sn (ab r)=ab (sn r):=by
 by_cases h0:0<=r
 ·rw[bP h0]at *;rw[bP (Me h0 h)]
 ·have e:ab r=-r:=by unfold ab;rw[if_neg h0]
  rw[e]at h;rw[e,<-iV (sn r),<-vI,bP (Me (by grind) h)]
theorem Yx{r:Rat}(h:ab r<=4/5):17/25<=cs r/\cs r<=1:=by
 have h0:=aM r;obtain⟨c1,c2⟩:=Gb h0 (by grind);have m:=bG h0 h h0 h;have m2:=aE h0 h0;have m3:=aE m2 (show 0<=6-ab r*ab r by grind);rw[aPD]at c1 c2;generalize ab r=a at *;constructor <;> grind
theorem aDY{r:Rat}(h0:0<=r)(h:r<=4/5):4/5*r<=sn r/\sn r<=r:=by
 have h1:r<=1:=by grind
 refine⟨?_,aDX h0 h1⟩;have c1:=(xH h0 h1).1;have m:=bG h0 h h0 h;have m3:=aE h0 (show 0<=16/25-r*r by grind);grind
theorem aVJ{a b:Int}(h:a<b):pz a<pz b:=by
 have h1:=cF (show a+1<=b by omega);have h2:=dA a;rw[jX]at h1;grind
theorem aHE{a b:Int}:pz a<=pz b↔a<=b:=by
 constructor
 ·intro h;refine Int.not_lt.1 fun hn=>?_
  have:=aVJ hn;grind
 ·exact cF
theorem xI{a b:Int}:pz a<pz b↔a<b:=by
 constructor
 ·intro h;refine Int.not_le.1 fun hn=>?_
  have:=cF hn;grind
 ·exact aVJ
theorem aAY:pz 1=2:=by rw[show(1:Int)=0+1 by rfl,jX,eB];grind
theorem mP(a:Int):pz (a-1)*2=pz a:=by
 have:=jX (a-1);rw[show a-1+1=a by omega]at this;grind
theorem fU(a:Int){n:Nat}{c:Rat}(hc:((2^n:Nat):Rat)=c):pz (a-(n:Int))*c=pz a:=by
 have:=dZ (a-(n:Int)) n;rw[show a-(n:Int)+(n:Int)=a by omega,hc]at this;exact this.symm
end R
namespace R
open W.TSums
theorem Lz{f:Nat->Rat}:∀{n:Nat},(∀k,k<n->f k=0)->sum f n=0
 |0,_=>rfl
 |n+1,h=>by rw[dS,Lz fun k hk=>h k (by omega),h n (by omega)];grind
theorem Rd(g:Nat->Rat)(k f:Nat):sum (fun i=>g (k+i)) (f+1)=g k+sum (fun i=>g (k+1+i)) f:=by
 rw[cES f 1,lD];have e:(fun i=>g (k+(1+i)))=fun i=>g (k+1+i):=funext fun i=>by rw[Nat.add_assoc]
 rw[e,dS];have z:sum (fun i=>g (k+i)) 0=0:=rfl;rw[z,bZR];grind
def gC(u W i:Nat):Rat:=cc i*(sq u W i:Rat)
def gS(u W i:Nat):Rat:=ss i*(sq u W i:Rat)
theorem Fe{u W:Nat}(hu:u<=W):∀f k a b c d,c<=a->d<=b->(k%4=1\/k%4=2->c+sq u W k<=a)->(k%4=2\/k%4=3->d+sq u W k<=b) ->
  (tay u W f k a b c d).2.2.1<=(tay u W f k a b c d).1/\(tay u W f k a b c d).2.2.2<=(tay u W f k a b c d).2.1 /\
  ((tay u W f k a b c d).1:Rat)-((tay u W f k a b c d).2.2.1:Rat)=(a:Rat)-(c:Rat)+sum (fun i=>gC u W (k+i)) f /\
  ((tay u W f k a b c d).2.1:Rat)-((tay u W f k a b c d).2.2.2:Rat)=(b:Rat)-(d:Rat)+sum (fun i=>gS u W (k+i)) f
 |0,k,a,b,c,d,h1,h2,_,_=>by
  have z1:sum (fun i=>gC u W (k+i)) 0=0:=rfl;have z2:sum (fun i=>gS u W (k+i)) 0=0:=rfl;refine⟨h1,h2,?_,?_⟩
  ·show(a:Rat)-(c:Rat)=_;rw[z1];grind
  ·show(b:Rat)-(d:Rat)=_;rw[z2];grind
 |f+1,k,a,b,c,d,h1,h2,h3,h4=>by
  have hs:=Ma hu k;have hm:k%4<4:=cBB _ (by decide);unfold tay
  by_cases hz:sq u W k=0
  ·have za:=Ww hz;rw[if_pos hz];have z1:sum (fun i=>gC u W (k+i)) (f+1)=0:=Lz fun i _=>by unfold gC;rw[za];simp
   have z2:sum (fun i=>gS u W (k+i)) (f+1)=0:=Lz fun i _=>by unfold gS;rw[za];simp
   rw[z1,z2];refine⟨h1,h2,?_,?_⟩
   ·show(a:Rat)-(c:Rat)=_;grind
   ·show(b:Rat)-(d:Rat)=_;grind
  ·rw[if_neg hz,Rd (gC u W) k f,Rd (gS u W) k f];have e4:(k+1)%4=(k%4+1)%4:=by omega
   by_cases c0:k%4=0
   ·rw[if_pos c0];obtain⟨r1,r2,r3,r4⟩:=Fe hu f (k+1) (a+sq u W k) b c d (by omega) h2 (fun _=>by omega) (fun h=>by omega);refine⟨r1,r2,?_,?_⟩
    ·rw[r3,cJA];have:gC u W k=(sq u W k:Rat):=by unfold gC cc;rw[if_pos c0];grind
     rw[this];grind
    ·rw[r4];have:gS u W k=0:=by unfold gS ss;rw[aP,aP];grind
     rw[this];grind
   ·rw[if_neg c0]
    by_cases c1:k%4=1
    ·rw[if_pos c1];obtain⟨r1,r2,r3,r4⟩:=Fe hu f (k+1) a (b+sq u W k) c d h1 (by omega) (fun _=>by have:=h3 (Or.inl c1);omega) (fun _=>by omega);refine⟨r1,r2,?_,?_⟩
     ·rw[r3];have:gC u W k=0:=by unfold gC cc;rw[if_neg c0,aP];grind
      rw[this];grind
     ·rw[r4,cJA];have:gS u W k=(sq u W k:Rat):=by unfold gS ss;rw[if_pos c1];grind
      rw[this];grind
    ·rw[if_neg c1]
     by_cases c2:k%4=2
     ·rw[if_pos c2];have g1:=h3 (Or.inr c2);have g2:=h4 (Or.inl c2);obtain⟨r1,r2,r3,r4⟩:=Fe hu f (k+1) a b (c+sq u W k) d (by omega) h2 (fun h=>by omega) (fun _=>by omega);refine⟨r1,r2,?_,?_⟩
      ·rw[r3,cJA];have:gC u W k=-(sq u W k:Rat):=by unfold gC cc;rw[if_neg c0,if_pos c2];grind
       rw[this];grind
      ·rw[r4];have:gS u W k=0:=by unfold gS ss;rw[if_neg c1,aP];grind
       rw[this];grind
     ·rw[if_neg c2];have g2:=h4 (Or.inr (by omega));obtain⟨r1,r2,r3,r4⟩:=Fe hu f (k+1) a b c (d+sq u W k) h1 (by omega) (fun h=>by omega) (fun h=>by omega);refine⟨r1,r2,?_,?_⟩
      ·rw[r3];have:gC u W k=0:=by unfold gC cc;rw[if_neg c0,if_neg c2];grind
       rw[this];grind
      ·rw[r4,cJA];have:gS u W k=-(sq u W k:Rat):=by unfold gS ss;rw[if_neg c1,aW];grind
       rw[this];grind
theorem Ih{x y:Nat}(h:y<=x):((x-y:Nat):Rat)=(x:Rat)-(y:Rat):=by
 have:((x-y:Nat):Rat)+(y:Rat)=(x:Rat):=by exact_mod_cast(show x-y+y=x by omega)
 grind
theorem aLF{u w:Nat}(hu:u<=2^w):(aGW u w:Rat)=sum (fun k=>ss k*(sq u (2^w) k:Rat)) (w+1)/\(aGX u w:Rat)=sum (fun k=>cc k*(sq u (2^w) k:Rat)) (w+1):=by
 obtain⟨r1,r2,r3,r4⟩:=Fe hu (w+1) 0 0 0 0 0 (bYT _) (bYT _) (fun h=>by omega) (fun h=>by omega);unfold aGW aGX;rw[Ih r1,Ih r2,r3,r4];have z:((0:Nat):Rat)=0:=by norm_cast
 have e1:sum (fun i=>gC u (2^w) (0+i)) (w+1)=sum (fun k=>cc k*(sq u (2^w) k:Rat)) (w+1):=kU fun k _=>by rw[bYV];rfl
 have e2:sum (fun i=>gS u (2^w) (0+i)) (w+1)=sum (fun k=>ss k*(sq u (2^w) k:Rat)) (w+1):=kU fun k _=>by rw[bYV];rfl
 rw[e1,e2,z];constructor <;> grind
end R
namespace M
open Go AI W
theorem Sq(p:Int×Int):R.ab (R.qz p)=(p.1.natAbs:Rat)*R.pz p.2:=by
 unfold R.qz;rw[R.fX,R.bP (cEA (R.dA p.2))];congr 1;unfold R.ab
 by_cases hz:0<=p.1
 ·rw[if_pos (by exact_mod_cast hz),<-cKC];congr 1;omega
 ·rw[if_neg (by intro hc;exact hz (by exact_mod_cast hc)),<-cKC,<-cLS];congr 1;omega
theorem Yc(w:Int)(hw:65<=w):∀f h:Nat,4<=h->(h=4\/16*(h:Int)-16<w)->THalvings.hlv w f h=4\/16*(THalvings.hlv w f h:Int)-16<w
 |0,h,_,hh=>hh
 |f+1,h,h4,hh=>by
  unfold THalvings.hlv;split
  ·rename_i hc;refine Yc w hw f (h+1) (by omega) (Or.inr ?_);have:4*(h:Int)*h>=4*4*h:=by
    have:=cBD (show(4*4:Int)<=4*h by omega) (show(0:Int)<=h by omega);omega
   omega
  ·exact hh
theorem Gi{x:Int×Int}{p:Int}(h0:x.1≠0)(h1:bB x<=0)(ht:-1200<=bB x)(hp:1<=p/\p<=67100) :
  aT.jG x=bB x/\aT.w0 x p=p+80-bB x/\4<=aT.hv x p/\aT.hv x p<=204/\(aT.hv x p:Int)+50<=p+80-bB x/\aT.w1 x p=p+80-bB x+2*(aT.hv x p:Nat)/\aT.w2 x p=p+80-bB x+3*(aT.hv x p:Nat):=by
 have e1:aT.jG x=bB x:=by unfold aT.jG bB;rw[if_neg h0]
 have e2:aT.w0 x p=p+80-bB x:=by
  unfold aT.w0;rw[e1];split <;> omega
 obtain⟨h3,h4⟩:=aT.aBO (aT.w0 x p) 200 4;have h5:=Yc (aT.w0 x p) (by omega) 200 4 (by omega) (Or.inl rfl);have eh:THalvings.hlv (aT.w0 x p) 200 4=aT.hv x p:=rfl;rw[eh]at h3 h4 h5;refine⟨e1,e2,h4,h3,?_,?_,?_⟩
 ·omega
 ·unfold aT.w1;omega
 ·unfold aT.w2 aT.w1;omega
theorem aTS(x:Int×Int)(n:Int):(wC.aQW x n:Rat)<=R.pz n*R.ab (R.qz x)/\R.pz n*R.ab (R.qz x)<(wC.aQW x n:Rat)+1:=by
 rw[Sq];have e:R.pz n*((x.1.natAbs:Rat)*R.pz x.2)=(x.1.natAbs:Rat)*R.pz (x.2+n):=by rw[R.iU];grind
 rw[e];unfold wC.aQW;split
 ·rename_i h;obtain⟨k,hk⟩:=cDX h;rw[hk,R.lP,cCQ,cFL];constructor <;> grind
 ·rename_i h;obtain⟨k,hk⟩:=cDX (show 0<=-(x.2+n) by omega);have hp:0<2^k:=cBT (by decide);obtain⟨d1,d2⟩:=R.yO x.1.natAbs hp;rw[hk,cCQ,show x.2+n=-(k:Int) by omega,R.yJ];have h2:=R.Uo k;have h3:=R.xA k;have m1:=R.aE (cEA h3) (show 0<=(x.1.natAbs:Rat)-((2^k:Nat):Rat)*((x.1.natAbs/2^k:Nat):Rat) by grind);have m2:=cEK h3 (show 0<((2^k:Nat):Rat)*((x.1.natAbs/2^k:Nat):Rat)+((2^k:Nat):Rat)-(x.1.natAbs:Rat) by grind);generalize ((x.1.natAbs/2^k:Nat):Rat)=q at *;generalize ((2^k:Nat):Rat)=K at *;generalize (x.1.natAbs:Rat)=m at *;generalize R.hf k=g at *;have e1:g*(K*q)=q:=by rw[<-cKA,h2];grind
  constructor <;> grind
theorem Zc{x:Int×Int}{p:Int}(h0:x.1≠0)(hT:R.ab (R.qz x)<=1)(h1:bB x<=0)(ht:-1200<=bB x)(hp:1<=p/\p<=67100) :
  aT.bU x p<=2^(aT.w1 x p).toNat /\
  R.ab (((aT.Dp x p).1:Rat)-R.pz (aT.w2 x p)*R.sn (R.ab (R.qz x)))<=R.pz (2*(aT.hv x p:Nat)+18) /\
  R.ab (((aT.Dp x p).2:Rat)-R.pz (aT.w2 x p)*R.cs (R.ab (R.qz x)))<=R.pz (2*(aT.hv x p:Nat)+18):=by
 obtain⟨e1,e2,h4,h5,h6,bNL,bNK⟩:=Gi h0 h1 ht hp;obtain⟨u1,u2⟩:=aTS x (aT.w1 x p);have hT0:=R.aM (R.qz x);unfold aT.Dp;have eU:wC.aQW x (aT.w1 x p)=aT.bU x p:=rfl;rw[eU]at u1 u2;generalize aT.bU x p=u at *;generalize aT.hv x p=h at *;generalize R.ab (R.qz x)=T at *;obtain⟨n,hn⟩:=cDX (show 0<=aT.w1 x p by omega);have aTC:aT.w2 x p=((n+h:Nat):Int):=by omega
 rw[hn,R.lP]at u1 u2;rw[hn,aTC,R.lP,cCQ,cCQ];have hu:u<=2^n:=by
  have hW:(0:Rat)<=((2^n:Nat):Rat):=by exact_mod_cast cEU _
  have:=R.aE hW (show 0<=1-T by grind);have:(u:Rat)<=((2^n:Nat):Rat):=by grind
  exact_mod_cast this
 have Xz:u<=2^(n+h):=bZP hu (cBU (by decide) (by omega));obtain⟨s1,s2⟩:=R.aLF Xz;have r:=R.aGK hT0 hT u1 u2 (h:=h) (by omega) (by omega) (by omega) s1 s2;have b:((4^h*(2*(n+h)+10):Nat):Rat)<=R.pz (2*(h:Nat)+18):=by
  rw[show 2*(h:Int)+18=((2*h+18:Nat):Int) by omega,R.lP];have:4^h*(2*(n+h)+10)<=2^(2*h+18):=by
   rw[cDU,<-R.Od];exact cBH _ (by have:(2:Nat)^18=262144:=rfl;omega)
  exact_mod_cast this
 exact⟨hu,cDY r.1 b,cDY r.2 b⟩
end M
namespace M
open Go AI W
theorem Ao(up:Bool)(p:Int×Int)(n:Nat):bl (shD up p n).1.natAbs<=n+1:=by
 unfold shD cS.oM;refine bZP (wO _ _) ?_;split
 ·dsimp only;omega
 ·rename_i h;dsimp only;exact aCD up p.1 _ n (by omega)
theorem Hb{p:Int×Int}{E:Int}(h0:p.1≠0)(h:R.ab (R.qz p)<R.pz E):bB p<E:=by
 have:=(pJ h0).1;refine R.xI.1 ?_;grind
theorem Dy{p:Int×Int}{E:Int}(h0:p.1≠0)(h:R.pz E<=R.ab (R.qz p)):E<=bB p:=by
 have:=(pJ h0).2;have:R.pz E<R.pz (bB p+1):=by grind
 have:=R.xI.1 this;omega
theorem Fc{p:Int×Int}{E:Int}(h0:p.1≠0)(h:R.ab (R.qz p)<=R.pz E):bB p<=E:=by
 have:=(pJ h0).1;refine R.aHE.1 ?_;grind
theorem aVH{p:Int×Int}(h:p.1≠0):R.qz p≠0:=by
 intro hz;have h1:=(pJ h).1;have h2:=R.dA (bB p);rw[hz,R.bP (by grind)]at h1;grind
theorem Jh{p:Int×Int}(h:R.qz p≠0):p.1≠0:=fun hz=>h (R.oG hz)
theorem kB{p:Int×Int}:0<R.qz p↔0<p.1:=by
 have h:=R.dA p.2;unfold R.qz;constructor
 ·intro hp;refine Int.not_le.1 fun hn=>?_
  have c:(p.1:Rat)<=0:=by exact_mod_cast hn
  have:=R.aE (show 0<=-(p.1:Rat) by grind) (cEA h);grind
 ·intro hp;have c:(0:Rat)<(p.1:Rat):=by exact_mod_cast hp
  exact cEK c h
theorem yI{p:Int×Int}:R.qz p<0↔p.1<0:=by
 have h:=kB (p:=(-p.1,p.2));rw[oQ]at h;constructor
 ·intro hp;have:=h.1 (by grind);dsimp only at this;omega
 ·intro hp;have:=h.2 (by dsimp only;omega);grind
theorem aCR{p q:Int×Int}{E:Int}{n:Nat}(hp:kE p)(hq:kE q)(h1:E<=p.2)(h2:E<=q.2)(v1:R.ab (R.qz p)<=R.pz (E+n))(v2:R.ab (R.qz q)<=R.pz (E+n))(hn:n<=500000)(hE:-1048576<=E)(hE2:E+n<=1048000):bQ.kT p q=true:=by
 unfold bQ.kT
 by_cases z1:p.1=0
 ·rw[decide_eq_true z1,cED]
 by_cases z2:q.1=0
 ·rw[decide_eq_true z2,cED,cEQ]
 rw[decide_eq_false z1,decide_eq_false z2,cAU,cAU];obtain⟨m1,m2⟩:=Ln p q;have hm:E<=bQ.iE p q:=by unfold bQ.iE;split <;> omega
 have aYP:bQ.iE p q<=1048576/\-1048576<=bQ.iE p q:=by have:=hp.2.1;have:=hq.2.1;unfold bQ.iE;split <;> omega
 have qX:R.qz (bQ.nU p q,bQ.iE p q)=R.qz p:=by
  unfold bQ.nU R.qz;dsimp only;have e1:R.pz p.2=R.pz (bQ.iE p q)*((2^(p.2-bQ.iE p q).toNat:Nat):Rat):=by rw[<-R.dZ];congr 1;omega
  rw[e1,cKB,cKC];grind
 have qY:R.qz (bQ.nT p q,bQ.iE p q)=R.qz q:=by
  unfold bQ.nT R.qz;dsimp only;have e1:R.pz q.2=R.pz (bQ.iE p q)*((2^(q.2-bQ.iE p q).toNat:Nat):Rat):=by rw[<-R.dZ];congr 1;omega
  rw[e1,cKB,cKC];grind
 have qS:R.qz (bQ.nU p q+bQ.nT p q,bQ.iE p q)=R.qz p+R.qz q:=by
  rw[<-qX,<-qY];unfold R.qz;dsimp only;rw[cLT];grind
 have vS:R.ab (R.qz (bQ.nU p q+bQ.nT p q,bQ.iE p q))<=R.pz (E+n+1):=by
  rw[qS,R.jX];have:=R.Vr (R.qz p) (R.qz q);grind
 rw[<-qX]at v1;rw[<-qY]at v2;generalize bQ.nU p q=X at *;generalize bQ.nT p q=Y at *;generalize bQ.iE p q=m at *;have bits:∀(z:Int) (F:Int),R.ab (R.qz (z,m))<=R.pz F->bl z.natAbs=0\/m+(bl z.natAbs:Nat)<=F+1:=by
  intro z F hv
  by_cases hz:z=0
  ·left;rw[hz];rfl
  ·right;have:=Fc (p:=(z,m)) hz hv;unfold bB at this;dsimp only at this;omega
 have b1:=bits X _ v1;have b2:=bits Y _ v2;have b3:=bits (X+Y) _ vS;have f:∀z:Int,bl z.natAbs<=524288->fit z.natAbs=true:=fun z h=>decide_eq_true h
 rw[f X (by omega),f Y (by omega),f (X+Y) (by omega),iD (by omega) (by omega)];rfl
theorem yL{p:Int×Int}(h:kE p):kE ((p.1.natAbs:Int),p.2):=by
 obtain⟨h1,h2,h3,h4⟩:=h;exact⟨by dsimp only;rw[cEJ];exact h1,h2,fun hz=>h3 (by dsimp only at hz;omega),fun hz=>by dsimp only at hz ⊢;have:=h4 (by omega);omega⟩
theorem Ec(p:Int×Int):R.qz ((p.1.natAbs:Int),p.2)=R.ab (R.qz p):=by
 rw[Sq];unfold R.qz;dsimp only;rw[cKC]
theorem aRF(p:Int×Int):bB ((p.1.natAbs:Int),p.2)=bB p:=by
 unfold bB;dsimp only;rw[cEJ]
theorem oP:R.qz (1,0)=1:=by
 unfold R.qz;dsimp only;rw[R.eB];have:((1:Int):Rat)=1:=by norm_cast
 rw[this];grind
theorem Cp:kE (1,0):=⟨by decide +kernel,⟨by decide,by decide⟩,fun h=>absurd h (by decide),fun _=>by decide⟩
theorem aOM{a f:Nat}{w q:Int}{V E:Rat}(hq:1<=q)(hE:R.ab ((a:Rat)-R.pz w*V)<=E)(hf:E<=(f:Rat))(hfa:(f:Rat)+E<=R.pz w*V)(hV:0<=V) :
  f<=a/\R.qz (shD false (bM.Kg a f w) q)<=V-R.pz (-w)*f+R.pz (-w)*E/\V-R.pz (-w)*f-R.pz (-w)*E-R.pz (1-q)*V<=R.qz (shD false (bM.Kg a f w) q) /\
  V+R.pz (-w)*f-R.pz (-w)*E<=R.qz (shD true (bM.Du a f w) q)/\R.qz (shD true (bM.Du a f w) q)<=V+R.pz (-w)*f+R.pz (-w)*E+R.pz (1-q)*(2*V):=by
 rw[R.aY]at hE;have bFO:f<=a:=by
  have:(f:Rat)<=(a:Rat):=by grind
  exact_mod_cast this
 refine⟨bFO,?_⟩;have g:=R.dA (-w);have gi:=R.aAZ w;have n1:=(Hg false (bM.Kg a f w) hq).1 rfl;have n2:=(Hg true (bM.Du a f w) hq).2 rfl;have q1:R.qz (bM.Kg a f w)=((a:Rat)-(f:Rat))*R.pz (-w):=by
  unfold bM.Kg;rw[nY,cKC,R.Ih bFO]
 have q2:R.qz (bM.Du a f w)=((a:Rat)+(f:Rat))*R.pz (-w):=by
  unfold bM.Du;rw[nY,cKC,cJA]
 rw[q1]at n1;rw[q2]at n2;have a0:(0:Rat)<=(a:Rat)-(f:Rat):=by grind
 have f0:(0:Rat)<=(f:Rat):=by exact_mod_cast cEU f
 rw[R.bP (R.aE a0 (cEA g))]at n1;rw[R.bP (R.aE (show(0:Rat)<=(a:Rat)+(f:Rat) by grind) (cEA g))]at n2;have eV:R.pz (-w)*(R.pz w*V)=V:=by rw[<-cKA,cLP (R.pz (-w)),gi];grind
 have m1:=R.aE (cEA g) (show 0<=E-((a:Rat)-R.pz w*V) by grind);have m2:=R.aE (cEA g) (show 0<=E+((a:Rat)-R.pz w*V) by grind);have m3:=R.aE (cEA g) (show 0<=R.pz w*V-((f:Rat)+E) by grind);have m4:=R.aE (cEA g) (show 0<=(f:Rat)-E by grind);have e0:R.pz w*V=R.pz w*V:=rfl;generalize R.pz w*V=U at *;generalize R.pz (-w)=G at *;have h0:=R.dA (1-q);generalize R.pz (1-q)=H at *;have k1:=R.aE (cEA h0) (show 0<=V-((a:Rat)-(f:Rat))*G by grind);have k2:=R.aE (cEA h0) (show 0<=2*V-((a:Rat)+(f:Rat))*G by grind);refine⟨?_,?_,?_,?_⟩ <;> grind
theorem aGI(p:Int×Int):R.qz (bM.zC p)<=1/\R.qz (bM.zC p)<=R.qz p/\(R.qz (bM.zC p)=R.qz p\/R.qz (bM.zC p)=1)/\(∀v,v<=R.qz p->v<=1->v<=R.qz (bM.zC p)):=by
 unfold bM.zC
 by_cases h:0<eN p (1,0)
 ·rw[decide_eq_true h,cond_true,oP];have:=yY.1 h;rw[oP]at this;exact⟨cFB,cEA this,Or.inr rfl,fun v _ h=>h⟩
 ·rw[decide_eq_false h,cond_false];have:R.qz p<=1:=by rw[<-oP];exact Rat.not_lt.1 fun hn=>h (yY.2 hn)
  exact⟨this,cFB,Or.inl rfl,fun v h _=>h⟩
theorem aER{p:Int×Int}(h:kE p):kE (bM.zC p):=by
 unfold bM.zC;cases decide (0<eN p (1,0))
 ·exact h
 ·exact Cp
theorem aPN{p:Int×Int}{n:Nat}(hn:1<=n)(h:bl p.1.natAbs<=n):bl (bM.zC p).1.natAbs<=n:=by
 unfold bM.zC;cases decide (0<eN p (1,0))
 ·exact h
 ·exact hn
theorem bGY{x:Int×Int}{p:Int}{V:Rat}{a:Nat}(h0:x.1≠0)(h1:bB x<=0)(ht:-1200<=bB x)(hp:1<=p/\p<=67100)(hV:R.pz (bB x-1)<=V)(bQM:V<=1)
  (ha:R.ab ((a:Rat)-R.pz (aT.w2 x p)*V)<=R.pz (2*(aT.hv x p:Nat)+18)) :
  bI.aPT a (2^(2*aT.hv x p+22)) (aT.w2 x p) (p+32) /\
  kE (shD false (bM.Kg a (2^(2*aT.hv x p+22)) (aT.w2 x p)) (p+32)) /\
  R.qz (shD false (bM.Kg a (2^(2*aT.hv x p+22)) (aT.w2 x p)) (p+32))<=V-R.pz (bB x-p-270) /\
  V-R.pz (bB x-p-61)-R.pz (-p-31)*V<=R.qz (shD false (bM.Kg a (2^(2*aT.hv x p+22)) (aT.w2 x p)) (p+32)) /\
  V+R.pz (bB x-p-270)<=R.qz (shD true (bM.Du a (2^(2*aT.hv x p+22)) (aT.w2 x p)) (p+32)) /\
  R.qz (shD true (bM.Du a (2^(2*aT.hv x p+22)) (aT.w2 x p)) (p+32))<=V+R.pz (bB x-p-61)+R.pz (-p-31)*(2*V):=by
 obtain⟨e1,e2,h4,h5,h6,bNL,bNK⟩:=Gi h0 h1 ht hp;generalize aT.hv x p=h at *;generalize aT.w2 x p=w at *;have tp:=R.dA (bB x-1);have V0:0<=V:=by grind
 have fE:((2^(2*h+22):Nat):Rat)=R.pz (2*(h:Nat)+22):=by rw[show 2*(h:Int)+22=((2*h+22:Nat):Int) by omega,R.lP]
 have l1:R.pz (2*(h:Nat)+18)<=R.pz (2*(h:Nat)+22):=R.cF (by omega);have l2:R.pz (2*(h:Nat)+22)+R.pz (2*(h:Nat)+18)<=R.pz w*V:=by
  have b1:R.pz (2*(h:Nat)+23)<=R.pz w*R.pz (bB x-1):=by rw[<-R.iU];exact R.cF (by omega)
  have b2:R.pz (2*(h:Nat)+23)=2*R.pz (2*(h:Nat)+22):=by rw[<-R.jX];congr 1
  have b3:=R.aE (cEA (R.dA w)) (show 0<=V-R.pz (bB x-1) by grind);grind
 have r:=aOM (a:=a) (f:=2^(2*h+22)) (w:=w) (q:=p+32) (V:=V) (E:=R.pz (2*(h:Nat)+18)) (by omega) ha (by rw[fE];exact l1) (by rw[fE];exact l2) V0;obtain⟨r0,r1,r2,r3,r4⟩:=r;rw[fE,<-R.iU,<-R.iU]at r1 r2 r3 r4;rw[show(1:Int)-(p+32)=-p-31 by omega]at r2 r4;have d1:R.pz (-w+(2*(h:Nat)+18))=R.pz (-w+(2*(h:Nat)+22))/16:=by
  have:=R.fU (-w+(2*(h:Nat)+22)) (n:=4) (c:=16) (by norm_cast);rw[show -w+(2*(h:Int)+22)-((4:Nat):Int)=-w+(2*(h:Nat)+18) by omega]at this;grind
 have d2:R.pz (bB x-p-270)<=R.pz (-w+(2*(h:Nat)+22))/16:=by rw[<-d1];exact R.cF (by omega)
 have d3:R.pz (-w+(2*(h:Nat)+22))*2<=R.pz (bB x-p-61):=by
  rw[cLP,<-R.jX];exact R.cF (by omega)
 rw[d1]at r1 r2 r3 r4;have dp:=R.dA (-w+(2*(h:Nat)+22));have ba:bl a<=70000:=by
  have:(a:Rat)<=R.pz (w+1):=by
   rw[R.aY]at ha;rw[R.jX];have b3:=R.aE (cEA (R.dA w)) (show 0<=1-V by grind);have:R.pz (2*(h:Nat)+18)<=R.pz w:=R.cF (by omega);grind
  obtain⟨n,hn⟩:=cDX (show 0<=w+1 by omega);rw[hn,R.lP]at this;have:a<=2^n:=by exact_mod_cast this
  refine bZP (gM this) ?_;rw[aPP];omega
 have bf:bl (2^(2*h+22))<=500:=by rw[aPP];omega
 have bs:bl (a-2^(2*h+22))<=70000:=bZP (gM (cFJ _ _)) ba;have bt:bl (a+2^(2*h+22))<=70001:=bZP (Da _ _) (by omega);have j1:iF ((a-2^(2*h+22):Nat):Int) (-w)=true:=iD (by omega) (by rw[cEJ];omega);have j2:iF ((a+2^(2*h+22):Nat):Int) (-w)=true:=iD (by omega) (by rw[cEJ];omega);have p1:kE (bM.Kg a (2^(2*h+22)) w):=gZ j1 (by rw[cEJ];omega);have p2:kE (bM.Du a (2^(2*h+22)) w):=gZ j2 (by rw[cEJ];omega);have aVR:∀{z:Nat},bl z<=70001->kE (aN (z:Int) (-w))->bIV (aN (z:Int) (-w)):=by
  intro z hz hP;refine⟨hP,?_⟩;have hb:=wO (z:Int) (-w);rw[cEJ]at hb
  by_cases z0:(z:Int)=0
  ·rw[z0,fN];show(0:Int)+((bl (0:Int).natAbs:Nat):Int)<=1048000;decide +kernel
  ·have h2:=(lI (e:=-w) z0).2;have h3:=Fb (n:=z) (by omega);rw[cEJ]at h2;omega
 obtain⟨s1,s2⟩:=Rf (up:=false) (n:=p+32) (aVR (by omega) p1) (by omega);obtain⟨s3,s4⟩:=Rf (up:=true) (n:=p+32) (aVR bt p2) (by omega);refine⟨⟨by omega,by omega,⟨by omega,by omega⟩,s1,s3,s4⟩,s2,?_,?_,?_,?_⟩ <;> grind
end M
namespace M
open Go AI W
theorem aXG(up:Bool)(p:Int×Int){n:Int}(hn:bB p+1-n<=0):bB p+1-n<=(shD up p n).2:=by
 have key:∀z e:Int,bB p+1-n<=e->bB p+1-n<=(aN z e).2:=by
  intro z e he
  by_cases hz:z=0
  ·rw[hz,fN];exact hn
  ·have:=qC (e:=e) hz;omega
 unfold shD cS.oM;unfold bB at *;split
 ·exact key _ _ (by omega)
 ·exact key _ _ (by omega)
theorem Kq{up:Bool}{p:Int×Int}{n:Int}(h:(shD up p n).1≠0):bB p+1-n<=(shD up p n).2:=by
 have key:∀z e:Int,(aN z e).1≠0->bB p+1-n<=e->bB p+1-n<=(aN z e).2:=by
  intro z e h0 he;have:=qC (e:=e) (fun hz=>h0 (dU.2 hz));omega
 unfold shD at *;refine key _ _ h ?_;unfold cS.oM bB at *;split <;> (dsimp only;omega)
theorem aGO{p q:Int×Int}{E:Int}(h1:E<=p.2)(h2:E<=q.2)(h0:E<=0):E<=(bQ.oA p q).2:=by
 have hm:E<=bQ.iE p q:=by unfold bQ.iE;split <;> omega
 unfold bQ.oA;split
 ·exact h2
 ·split
  ·exact h1
  ·by_cases hz:bQ.nU p q+bQ.nT p q=0
   ·rw[hz,fN];exact h0
   ·have:=qC (e:=bQ.iE p q) hz;omega
theorem aPR{p:Int×Int}{E F:Int}(h1:E<=p.2)(h2:R.ab (R.qz p)<=R.pz F):(bl p.1.natAbs:Int)<=F+1-E\/bl p.1.natAbs=0:=by
 by_cases h0:p.1=0
 ·right;rw[h0];rfl
 ·left;have:=Fc h0 h2;unfold bB at this;omega
theorem Kv(k:Int):R.qz (-1,k)=-R.pz k:=by
 unfold R.qz;dsimp only;have:((-1:Int):Rat)=-1:=by norm_cast
 rw[this];grind
theorem Xh{k:Int}(h:-1048576<=k/\k<=1048576):kE (-1,k):=⟨by show bl (-1:Int).natAbs<=524288;decide +kernel,h,fun h=>absurd (show(-1:Int)=0 from h) (by decide),fun _=>by show(-1:Int)%2=1;decide⟩
theorem aDL{x:Int×Int}(h0:x.1≠0)(hT:R.ab (R.qz x)<=4/5):bB x<=-1:=by
 have:R.ab (R.qz x)<R.pz 0:=by rw[R.eB];grind
 have:=Hb h0 this;omega
structure bCJ(x:Int×Int)(p:Int):Prop where
 pl:kE (fV.uM x p)
 ph:kE (fV.tH x p)
 bl:bl (fV.uM x p).1.natAbs<=80000
 bh:M.bl (fV.tH x p).1.natAbs<=80000
 lo:R.qz (fV.uM x p)<=R.sn (R.ab (R.qz x))-R.pz (bB x-p-270)
 hi:R.sn (R.ab (R.qz x))<=R.qz (fV.tH x p)
 wd:R.qz (fV.tH x p)-R.qz (fV.uM x p)<=R.pz (-p-1)*R.ab (R.qz x)
 one:R.qz (fV.tH x p)<=1
 mh:¬2*bB x+8 < -p->R.sn (R.ab (R.qz x))+R.pz (bB x-p-270)<=R.qz (fV.tH x p)
 pos:0<R.qz (fV.uM x p)
 bJM:2*bB x+8 < -p->yD true ((x.1.natAbs:Int),x.2) (p+32)=true/\yD false ((x.1.natAbs:Int),x.2) (p+32)=true/\kE (shD false ((x.1.natAbs:Int),x.2) (p+32))/\bQ.kT (shD false ((x.1.natAbs:Int),x.2) (p+32)) (-1,bB x-p-3)=true
 okB:¬2*bB x+8 < -p->bI.Vj x p/\bI.aPT (aT.Dp x p).1 (2^(2*aT.hv x p+22)) (aT.w2 x p) (p+32)
theorem aVI{p:Int}(hp:1<=p):R.pz (-p-1)<=1/4:=by
 have h:=R.cF (show -p-1<=-2 by omega);have h2:=R.yJ 2;rw[show -((2:Nat):Int)=-2 by rfl]at h2;rw[h2]at h;have h3:R.hf 2=1/4:=by simp[R.hf];grind
 grind
theorem Xa{x:Int×Int}{p:Int}(hx:kE x)(h0:x.1≠0)(hT:R.ab (R.qz x)<=4/5)(ht:-1200<=bB x)(hp:1<=p/\p<=67100):bCJ x p:=by
 have h1:=aDL h0 hT;obtain⟨e1,e2,h4,h5,h6,bNL,bNK⟩:=Gi h0 (by omega) ht hp;obtain⟨t1,t2⟩:=pJ h0;have tp:=R.dA (bB x);have T0:0<R.ab (R.qz x):=by grind
 obtain⟨v1,v2⟩:=R.aDY (cEA T0) hT;obtain⟨z,hz⟩:∃z,z=R.pz (-p-31):=⟨_,rfl⟩;have z0:=R.dA (-p-31);have q1:R.pz (-p-1)=1073741824*z:=by
  have:=R.fU (-p-1) (n:=30) (c:=1073741824) (by norm_cast);rw[show -p-1-((30:Nat):Int)=-p-31 by omega,<-hz]at this;grind
 have q2:R.pz (bB x-p-61)=z*R.pz (bB x)/1073741824:=by
  have:=R.fU (-p-31+bB x) (n:=30) (c:=1073741824) (by norm_cast);rw[show -p-31+bB x-((30:Nat):Int)=bB x-p-61 by omega,R.iU,<-hz]at this;grind
 have q3:R.pz (bB x-p-3)=268435456*(z*R.pz (bB x)):=by
  have:=R.fU (bB x-p-3) (n:=28) (c:=268435456) (by norm_cast);rw[show bB x-p-3-((28:Nat):Int)=-p-31+bB x by omega,R.iU,<-hz]at this;grind
 have sm:=aVI hp.1;rw[q1]at sm;rw[<-hz]at z0;have zt:=R.aE (cEA z0) (show 0<=R.ab (R.qz x)-R.pz (bB x) by grind);have zT:=R.aE (cEA T0) (show 0<=1/4-1073741824*z by grind);have aSU:R.pz (bB x-p-270)<=R.pz (bB x-p-61):=R.cF (by omega);have p270:=R.dA (bB x-p-270)
 by_cases c:2*bB x+8 < -p
 ·have dL:fV.uM x p=bQ.oA (shD false ((x.1.natAbs:Int),x.2) (p+32)) (-1,bB x-p-3):=by unfold fV.uM;rw[e1,if_pos c]
  have dH:fV.tH x p=shD true ((x.1.natAbs:Int),x.2) (p+32):=by unfold fV.tH;rw[e1,if_pos c]
  have pX:=yL hx;have vX:=Ec x;have tX:=aRF x;have n1:=(Hg false ((x.1.natAbs:Int),x.2) (n:=p+32) (by omega)).1 rfl;have n2:=(Hg true ((x.1.natAbs:Int),x.2) (n:=p+32) (by omega)).2 rfl;rw[vX,show(1:Int)-(p+32)=-p-31 by omega,<-hz,R.bP (cEA T0)]at n1 n2;have aVR:bIV ((x.1.natAbs:Int),x.2):=⟨pX,by unfold bB at tX h1;dsimp only at *;omega⟩;obtain⟨s1,s2⟩:=Rf (up:=false) (n:=p+32) aVR (by omega);obtain⟨s3,s4⟩:=Rf (up:=true) (n:=p+32) aVR (by omega);have x1:=aXG false ((x.1.natAbs:Int),x.2) (n:=p+32) (by rw[tX];omega);have x2:=Ao true ((x.1.natAbs:Int),x.2) (p+32).toNat;rw[tX]at x1;rw[show(((p+32).toNat:Nat):Int)=p+32 by omega]at x2;have pm:=Xh (k:=bB x-p-3) (by omega);have T1:R.ab (R.qz x)<=R.pz (bB x+1):=cEA t2;have L0:0<=R.qz (shD false ((x.1.natAbs:Int),x.2) (p+32)):=by grind
  have bGZ:bQ.kT (shD false ((x.1.natAbs:Int),x.2) (p+32)) (-1,bB x-p-3)=true:=by
   refine aCR (E:=bB x-p-40) (n:=(p+41).toNat) s2 pm (by omega) (by dsimp only;omega) ?_ ?_ (by omega) (by omega) (by omega)
   ·rw[show bB x-p-40+(((p+41).toNat:Nat):Int)=bB x+1 by omega,R.bP L0];grind
   ·rw[Kv,R.iV,R.bP (cEA (R.dA _))];exact R.cF (by omega)
  have pl:=Tu s2 pm bGZ;have xl:=aGO (p:=shD false ((x.1.natAbs:Int),x.2) (p+32)) (q:=(-1,bB x-p-3)) (E:=bB x-p-40) (by omega) (by dsimp only;omega) (by omega);have ql:=Tt (shD false ((x.1.natAbs:Int),x.2) (p+32)) (-1,bB x-p-3);rw[Kv,q3]at ql;rw[<-dL]at pl xl ql;rw[<-dH]at s4 x2 n2;have cube:R.ab (R.qz x)-z*R.pz (bB x)*268435456/16<=R.sn (R.ab (R.qz x)):=by
   have s:=(R.xH (cEA T0) (show R.ab (R.qz x)<=1 by grind)).1;have a1:R.ab (R.qz x)*R.ab (R.qz x)<=R.pz (bB x+1)*R.pz (bB x+1):=R.bG (cEA T0) T1 (cEA T0) T1;rw[<-R.iU]at a1;have a2:R.pz (bB x+1+(bB x+1))<=R.pz (-p-7):=R.cF (by omega);have a3:R.pz (-p-7)=16777216*z:=by
    have:=R.fU (-p-7) (n:=24) (c:=16777216) (by norm_cast);rw[show -p-7-((24:Nat):Int)=-p-31 by omega,<-hz]at this;grind
   have a4:=R.aE (show 0<=16777216*z-R.ab (R.qz x)*R.ab (R.qz x) by grind) (cEA T0);rw[R.jX]at T1;have a5:=R.aE (cEA z0) (show 0<=2*R.pz (bB x)-R.ab (R.qz x) by grind);generalize R.ab (R.qz x)=T at *;grind
  have bRQ:=cEK z0 tp;refine⟨pl,s4,?_,by omega,?_,?_,?_,?_,fun h=>absurd c h,?_,fun _=>⟨s3,s1,s2,bGZ⟩,fun h=>absurd c h⟩
  ·have v:R.ab (R.qz (fV.uM x p))<=R.pz (bB x+1):=by
    rw[R.bP (by grind)];grind
   have:=aPR xl v;omega
  ·rw[q2]at aSU;grind
  ·grind
  ·rw[q1];grind
  ·grind
  ·grind
 ·have dL:fV.uM x p=shD false (bM.Kg (aT.Dp x p).1 (2^(2*aT.hv x p+22)) (aT.w2 x p)) (p+32):=by unfold fV.uM;rw[e1,if_neg c]
  have dH:fV.tH x p=bM.zC (shD true (bM.Du (aT.Dp x p).1 (2^(2*aT.hv x p+22)) (aT.w2 x p)) (p+32)):=by unfold fV.tH;rw[e1,if_neg c]
  obtain⟨b1,b2,b3⟩:=Zc h0 (by grind) (by omega) ht hp;have hV:R.pz (bB x-1)<=R.sn (R.ab (R.qz x)):=by
   have:=R.mP (bB x);grind
  obtain⟨a1,a2,a3,a4,a5,a6⟩:=bGY h0 (by omega) ht hp hV (by grind) b2;have a7:=a1.2.2.2.2.2;have c1:=Ao false (bM.Kg (aT.Dp x p).1 (2^(2*aT.hv x p+22)) (aT.w2 x p)) (p+32).toNat;have c2:=Ao true (bM.Du (aT.Dp x p).1 (2^(2*aT.hv x p+22)) (aT.w2 x p)) (p+32).toNat;rw[show(((p+32).toNat:Nat):Int)=p+32 by omega]at c1 c2;obtain⟨k1,k2,k3,k4⟩:=aGI (shD true (bM.Du (aT.Dp x p).1 (2^(2*aT.hv x p+22)) (aT.w2 x p)) (p+32));have c3:=aPN (n:=80000) (by omega) (show bl (shD true (bM.Du (aT.Dp x p).1 (2^(2*aT.hv x p+22)) (aT.w2 x p)) (p+32)).1.natAbs<=80000 by omega);have c4:=aER a7;rw[<-dL]at a2 a3 a4 c1;rw[<-dH]at k1 k2 k3 k4 c3 c4;generalize shD true (bM.Du (aT.Dp x p).1 (2^(2*aT.hv x p+22)) (aT.w2 x p)) (p+32)=hi at *;rw[<-hz]at a4 a6;have zV:=R.aE (cEA z0) (show 0<=R.ab (R.qz x)-R.sn (R.ab (R.qz x)) by grind);have hm:R.sn (R.ab (R.qz x))+R.pz (bB x-p-270)<=R.qz (fV.tH x p):=by
   refine k4 _ a5 ?_;rw[q2]at aSU;grind
  refine⟨a2,c4,by omega,c3,a3,by grind,?_,k1,fun _=>hm,?_,fun h=>absurd h c,fun _=>⟨⟨⟨by omega,by omega⟩,b1⟩,a1⟩⟩
  ·rw[q1];rw[q2]at a4 a6;grind
  ·rw[q2]at a4;grind
structure bIY(x:Int×Int)(p:Int):Prop where
 pl:kE (bI.sW x p)
 ph:kE (bI.sA x p)
 bl:bl (bI.sW x p).1.natAbs<=80000
 bh:M.bl (bI.sA x p).1.natAbs<=80000
 lo:R.qz (bI.sW x p)<=R.cs (R.ab (R.qz x))
 hi:R.cs (R.ab (R.qz x))<=R.qz (bI.sA x p)
 wd:R.qz (bI.sA x p)-R.qz (bI.sW x p)<=R.pz (-p-1)
 one:R.qz (bI.sA x p)<=1
 ml:x.1≠0->R.qz (bI.sW x p)<=R.cs (R.ab (R.qz x))-R.pz (bB x-p-270)
 mh:x.1≠0->¬2*bB x+8 < -p->R.cs (R.ab (R.qz x))+R.pz (bB x-p-270)<=R.qz (bI.sA x p)
 bJM:x.1≠0->2*bB x+8 < -p->bQ.kT (1,0) (-1,-p-3)=true
 okB:x.1≠0->¬2*bB x+8 < -p->bI.Vj x p/\bI.aPT (aT.Dp x p).2 (2^(2*aT.hv x p+22)) (aT.w2 x p) (p+32)
theorem Ol{x:Int×Int}{p:Int}(hT:R.ab (R.qz x)<=4/5)(ht:x.1≠0->-1200<=bB x)(hp:1<=p/\p<=67100):bIY x p:=by
 obtain⟨z,hz⟩:∃z,z=R.pz (-p-31):=⟨_,rfl⟩;have z0:=R.dA (-p-31);have q1:R.pz (-p-1)=1073741824*z:=by
  have:=R.fU (-p-1) (n:=30) (c:=1073741824) (by norm_cast);rw[show -p-1-((30:Nat):Int)=-p-31 by omega,<-hz]at this;grind
 have sm:=aVI hp.1;rw[q1]at sm;rw[<-hz]at z0
 by_cases h0:x.1=0
 ·have dL:bI.sW x p=(1,0):=by unfold bI.sW;rw[if_pos h0]
  have dH:bI.sA x p=(1,0):=by unfold bI.sA;rw[if_pos h0]
  have c1:R.cs (R.ab (R.qz x))=1:=by rw[R.oG h0,R.bP (cFB),R.Vg]
  refine⟨by rw[dL];exact Cp,by rw[dH];exact Cp,by rw[dL];decide +kernel,by rw[dH];decide +kernel,by rw[dL,oP,c1];exact cFB,by rw[dH,oP,c1];exact cFB,?_,by rw[dH,oP];exact cFB,fun h=>absurd h0 h,fun h=>absurd h0 h,fun h=>absurd h0 h,fun h=>absurd h0 h⟩;rw[dL,dH,q1];grind
 ·have ht:=ht h0;have h1:=aDL h0 hT;obtain⟨e1,e2,h4,h5,h6,bNL,bNK⟩:=Gi h0 (by omega) ht hp;obtain⟨t1,t2⟩:=pJ h0;have tp:=R.dA (bB x);have T0:0<R.ab (R.qz x):=by grind
  obtain⟨v1,v2⟩:=R.Yx (r:=R.ab (R.qz x)) (by rw[R.bP (cEA T0)];exact hT);have T1:R.ab (R.qz x)<=R.pz (bB x+1):=cEA t2;have pt:R.pz (bB x)<=1/2:=by
   have:=R.cF (show bB x+1<=0 by omega);rw[R.jX,R.eB]at this;grind
  have q2:R.pz (bB x-p-61)=z*R.pz (bB x)/1073741824:=by
   have:=R.fU (-p-31+bB x) (n:=30) (c:=1073741824) (by norm_cast);rw[show -p-31+bB x-((30:Nat):Int)=bB x-p-61 by omega,R.iU,<-hz]at this;grind
  have zt:=R.aE (cEA z0) (show 0<=1/2-R.pz (bB x) by grind);have bRQ:=cEK z0 tp;have aSU:R.pz (bB x-p-270)<=R.pz (bB x-p-61):=R.cF (by omega);rw[q2]at aSU;have cs2:=R.Gb (cEA T0) (show R.ab (R.qz x)<=1 by grind)
  by_cases c:2*bB x+8 < -p
  ·have dL:bI.sW x p=bQ.oA (1,0) (-1,-p-3):=by unfold bI.sW;rw[e1,if_neg h0,if_pos c]
   have dH:bI.sA x p=(1,0):=by unfold bI.sA;rw[e1,if_neg h0,if_pos c]
   have pm:=Xh (k:=-p-3) (by omega);have o1:R.ab (R.qz (1,0))<=R.pz 0:=by rw[oP,R.eB,R.bP (by grind)];exact cFB
   have bGZ:bQ.kT (1,0) (-1,-p-3)=true:=by
    refine aCR (E:=-p-3) (n:=(p+3).toNat) Cp pm (by dsimp only;omega) (by dsimp only;omega) ?_ ?_ (by omega) (by omega) (by omega)
    ·rw[show -p-3+(((p+3).toNat:Nat):Int)=0 by omega];exact o1
    ·rw[Kv,R.iV,R.bP (cEA (R.dA _))];exact R.cF (by omega)
   have pl:=Tu Cp pm bGZ;have xl:=aGO (p:=(1,0)) (q:=(-1,-p-3)) (E:=-p-3) (by dsimp only;omega) (by dsimp only;omega) (by omega);have ql:=Tt (1,0) (-1,-p-3);have q3:R.pz (-p-3)=268435456*z:=by
    have:=R.fU (-p-3) (n:=28) (c:=268435456) (by norm_cast);rw[show -p-3-((28:Nat):Int)=-p-31 by omega,<-hz]at this;grind
   rw[Kv,oP,q3]at ql;rw[<-dL]at pl xl ql;have lo:R.qz (bI.sW x p)<=R.cs (R.ab (R.qz x))-R.pz (bB x-p-270):=by
    have a1:R.ab (R.qz x)*R.ab (R.qz x)<=R.pz (bB x+1)*R.pz (bB x+1):=R.bG (cEA T0) T1 (cEA T0) T1;rw[<-R.iU]at a1;have a2:R.pz (bB x+1+(bB x+1))<=R.pz (-p-7):=R.cF (by omega);have a3:R.pz (-p-7)=16777216*z:=by
     have:=R.fU (-p-7) (n:=24) (c:=16777216) (by norm_cast);rw[show -p-7-((24:Nat):Int)=-p-31 by omega,<-hz]at this;grind
    grind
   refine⟨pl,by rw[dH];exact Cp,?_,by rw[dH];decide +kernel,?_,by rw[dH,oP];exact v2,?_,by rw[dH,oP];exact cFB,fun _=>lo,fun _ h=>absurd c h,fun _ _=>bGZ,fun _ h=>absurd c h⟩
   ·have v:R.ab (R.qz (bI.sW x p))<=R.pz 0:=by
     rw[R.eB,R.bP (by grind)];grind
    have:=aPR xl v;omega
   ·have:=R.dA (bB x-p-270);grind
   ·rw[dH,oP,q1];grind
  ·have dL:bI.sW x p=shD false (bM.Kg (aT.Dp x p).2 (2^(2*aT.hv x p+22)) (aT.w2 x p)) (p+32):=by unfold bI.sW;rw[e1,if_neg h0,if_neg c]
   have dH:bI.sA x p=bM.zC (shD true (bM.Du (aT.Dp x p).2 (2^(2*aT.hv x p+22)) (aT.w2 x p)) (p+32)):=by unfold bI.sA;rw[e1,if_neg h0,if_neg c]
   obtain⟨b1,b2,b3⟩:=Zc h0 (by grind) (by omega) ht hp;have hV:R.pz (bB x-1)<=R.cs (R.ab (R.qz x)):=by
    have:=R.mP (bB x);grind
   obtain⟨a1,a2,a3,a4,a5,a6⟩:=bGY h0 (by omega) ht hp hV v2 b3;have a7:=a1.2.2.2.2.2;have c1:=Ao false (bM.Kg (aT.Dp x p).2 (2^(2*aT.hv x p+22)) (aT.w2 x p)) (p+32).toNat;have c2:=Ao true (bM.Du (aT.Dp x p).2 (2^(2*aT.hv x p+22)) (aT.w2 x p)) (p+32).toNat;rw[show(((p+32).toNat:Nat):Int)=p+32 by omega]at c1 c2;obtain⟨k1,k2,k3,k4⟩:=aGI (shD true (bM.Du (aT.Dp x p).2 (2^(2*aT.hv x p+22)) (aT.w2 x p)) (p+32));have c3:=aPN (n:=80000) (by omega) (show bl (shD true (bM.Du (aT.Dp x p).2 (2^(2*aT.hv x p+22)) (aT.w2 x p)) (p+32)).1.natAbs<=80000 by omega);have c4:=aER a7;rw[<-dL]at a2 a3 a4 c1;rw[<-dH]at k1 k2 k3 k4 c3 c4;generalize shD true (bM.Du (aT.Dp x p).2 (2^(2*aT.hv x p+22)) (aT.w2 x p)) (p+32)=hi at *;rw[<-hz]at a4 a6;have zV:=R.aE (cEA z0) (show 0<=1-R.cs (R.ab (R.qz x)) by grind);have m9:=R.dA (bB x-p-270);have room:R.cs (R.ab (R.qz x))+R.pz (bB x-p-270)<=1:=by
    have a1:R.pz (bB x)*R.pz (bB x)<=R.ab (R.qz x)*R.ab (R.qz x):=R.bG (cEA tp) t1 (cEA tp) t1;rw[<-R.iU]at a1;have a2:R.pz (-p-9)<=R.pz (bB x+bB x):=R.cF (by omega);have a3:R.pz (-p-9)=4194304*z:=by
     have:=R.fU (-p-9) (n:=22) (c:=4194304) (by norm_cast);rw[show -p-9-((22:Nat):Int)=-p-31 by omega,<-hz]at this;grind
    have a5:=R.bG (cEA T0) hT (cEA T0) hT;have a6:=R.aE (show 0<=R.ab (R.qz x)*R.ab (R.qz x) by grind) (show 0<=16/25-R.ab (R.qz x)*R.ab (R.qz x) by grind);generalize R.ab (R.qz x)=T at *;grind
   have hm:R.cs (R.ab (R.qz x))+R.pz (bB x-p-270)<=R.qz (bI.sA x p):=k4 _ a5 room;rw[q2]at a4 a6;refine⟨a2,c4,by omega,c3,by grind,by grind,?_,k1,fun _=>a3,fun _ _=>hm,fun _ h=>absurd h c,fun _ _=>⟨⟨⟨by omega,by omega⟩,b1⟩,a1⟩⟩;rw[q1];grind
end M
namespace W
open Go AI M
namespace Wk
def E:=mE [(12,bC.aJ)] 8 [5] [] []
def aF:=bd f241
theorem aX:Nk E aF:=nk
theorem start a:aI E f241 aF [D.s (sc (int u64 a))]=letI A:=bif cC.fB 64 a&&cN.jW 64 a then aN (bC.kF 64 a) (bC.lW 64 a)else((0:Int),(0:Int));aO (((64:Int)=(32:Int)\/(64:Int)=(64:Int))/\0<=a/\a<18446744073709551616) (some [D.agg [sc (bool (isNeg A.fst)),ints u64 (M6.dg A.fst.natAbs),sc (int i64 A.snd)],D.s (sc (int i64 (bif cC.fB 64 a then bif cN.jW 64 a then(0:Int)else(6:Int)else(2:Int))))]):=eJ aX
def sp(b:Int):Prop×List D:=(0<=b/\b<18446744073709551616,[dD (bif cC.fB 64 b&&cN.jW 64 b then aN (bC.kF 64 b) (bC.lW 64 b)else(0,0)),.s (.sc (.int .i64 (bif cC.fB 64 b then(bif cN.jW 64 b then 0 else 6)else 2)))])
theorem spec:jL E f241 aF (pN .u64) sp:=fun b h=>(start b).trans (gP ⟨Or.inr rfl,h.1,h.2⟩)
def aJ:dK:=orc1 (pN .u64) sp
theorem ok:OK 241 aJ:=(fJ E aF (aA bC.ok aD) func241).qB rfl spec
end Wk
namespace Ev
def E:=mE [(51,aJB.aJ)] 5 [] [] []
def aF:=bd f244
theorem aX:Nk E aF:=nk
theorem start a:aI E f244 aF [D.s (sc (int i64 a))]=aO ((-9223372036854775808:Int)<=a/\a<9223372036854775808) (some [D.agg [sc (bool (isNeg a)),ints u64 (M6.dg a.natAbs)]]):=eJ aX
def sp(a:Int):Prop×List D:=(-9223372036854775808<=a/\a<9223372036854775808,[wD a])
theorem spec:jL E f244 aF (pN .i64) sp:=fun a h=>(start a).trans (gP h)
def aJ:dK:=orc1 (pN .i64) sp
theorem ok:OK 244 aJ:=(fJ E aF (aA aJB.ok aD) func244).qB rfl spec
end Ev
namespace uC
def E:=mE [(244,Ev.aJ),(50,jQ.aJ),(158,Ki.aJ)] 22 [] [] []
def aF:=bd f242
theorem aX:Nk E aF:=nk
theorem start a b c:aI E f242 aF [D.agg [sc (bool a),ints u64 b,sc (int i64 c)]]=letI F:=(false,b,c);letI C:=wv (isNeg 3,M6.dg (cIQ 3));letI A:=bif iF C (-2:Int)then aN C (-2:Int)else((0:Int),(0:Int));letI B:=(isNeg A.fst,M6.dg A.fst.natAbs,A.snd);aO ((-9223372036854775808:Int)<=(3:Int)/\(3:Int)<(9223372036854775808:Int)) (aO (gY (isNeg 3,M6.dg 3)/\(-9223372036854775808:Int)<=(-2:Int)/\(-2:Int)<(9223372036854775808:Int)) (aO (aR F/\aR B) (some [D.s (sc (bool (decide (mG (bQ.nU (dv F) (dv B)) (bQ.nT (dv F) (dv B))<=0))))]))):=eJ aX
def aQQ(p:Int×Int):Bool:=decide (eN ((p.1.natAbs:Int),p.2) (3,-2)<=0)
def sp(x:gQ):Prop×List D:=(aR x,[.s (.sc (.bool (aQQ (dv x))))])
theorem spec:jL E f242 aF jO sp:=by
 intro x h;have hx:aR x:=h;refine(start x.1 x.2.1 x.2.2).trans ?_;have e3:wv (isNeg 3,M6.dg (cIQ 3))=3:=nW 3;have i3:iF 3 (-2)=true:=by decide +kernel
 have n3:aN 3 (-2)=(3,-2):=by decide +kernel
 have p3:kE (3,-2):=by
  have:=gZ (z:=3) (e:=-2) i3 (by decide +kernel);rw[n3]at this;exact this
 have d3:=dP p3;have v3:=dX (3,-2);dsimp only at d3 v3;have ok:aR (false,x.2.1,x.2.2):=⟨⟨hx.1.1,fun hf=>(by cases hf),hx.1.len⟩,hx.2⟩;have vx:dv (false,x.2.1,x.2.2)=((((dv x).1.natAbs:Nat):Int),(dv x).2):=by
  rw[show(dv x).1.natAbs=M6.val x.2.1 from iT (x.1,x.2.1)];rfl
 rw[gP ⟨by decide,by decide⟩,gP ⟨gI (z:=3) (by decide +kernel),by decide,by decide⟩];simp only[e3,i3,n3,cond_true];rw[gP ⟨ok,d3⟩,v3,vx];rfl
def aJ:dK:=orc1 jO sp
theorem ok:OK 242 aJ:=(fJ E aF (aA Ev.ok (aA jQ.ok (aA Ki.ok aD))) func242).qB rfl spec
end uC
end W
namespace R
open W.Arctan
theorem Ea{k w:Nat}(hk:2<=k):∀f j p m,2^w/k^(2*j+1)<4^f->m<=p->(j%2=1->m+iO k w j<=p) ->
  ∃N J,rounds k f (2^w/k^(2*j+1)) p m (2*j+1) j=(N,J)/\J<=j+f/\(N:Rat)=(p:Rat)-(m:Rat)+(sum (fun i=>sg i*(iO k w i:Rat)) J-sum (fun i=>sg i*(iO k w i:Rat)) j)/\iO k w J=0
 |0,j,p,m,h,hm,_=>by
  have h0:2^w/k^(2*j+1)=0:=by simpa using h
  refine⟨p-m,j,rfl,bYT _,?_,by unfold iO;rw[h0,Nat.zero_div]⟩;have:((p-m:Nat):Rat)=(p:Rat)-(m:Rat):=by
   have e:p-m+m=p:=by omega
   have e2:((p-m:Nat):Rat)+(m:Rat)=(p:Rat):=by exact_mod_cast e
   grind
  rw[this];grind
 |f+1,j,p,m,h,hm,ho=>by
  by_cases h0:2^w/k^(2*j+1)=0
  ·refine⟨p-m,j,by unfold rounds;rw[if_pos h0],by omega,?_,by unfold iO;rw[h0,Nat.zero_div]⟩;have:((p-m:Nat):Rat)=(p:Rat)-(m:Rat):=by
    have e:p-m+m=p:=by omega
    have e2:((p-m:Nat):Rat)+(m:Rat)=(p:Rat):=by exact_mod_cast e
    grind
   rw[this];grind
  ·have e1:2^w/k^(2*j+1)/k/k=2^w/k^(2*(j+1)+1):=by
    rw[cEN,cEN,show 2*(j+1)+1=2*j+1+1+1 by omega,cDS k (2*j+1+1),cDS k (2*j+1),cDV]
   have e2:2^w/k^(2*(j+1)+1)<4^f:=by
    rw[<-e1,cEN];apply cEL;have:4<=k*k:=cJC hk hk;rw[cDS 4 f,cDR (4^f)]at h;exact bZQ h (cAI _ this)
   have e3:iO k w (j+1)<=iO k w j:=by
    unfold iO;rw[<-e1];refine bZP (Nat.div_le_div_left (by omega) (by omega)) (Nat.div_le_div_right ?_);exact bZP (cJD _ _) (cJD _ _)
   have es:sum (fun i=>sg i*(iO k w i:Rat)) (j+1)=sum (fun i=>sg i*(iO k w i:Rat)) j+sg j*(iO k w j:Rat):=dS _ _;have ea:2^w/k^(2*j+1)/(2*j+1)=iO k w j:=rfl;unfold rounds;rw[if_neg h0,e1,ea,show 2*j+1+2=2*(j+1)+1 by omega]
   by_cases hc:(2*j+1)%4=1
   ·rw[if_pos hc];obtain⟨N,J,r1,r2,r3,r4⟩:=Ea hk f (j+1) (p+iO k w j) m e2 (by omega) (fun _=>by omega);refine⟨N,J,r1,by omega,?_,r4⟩;have:sg j=1:=by unfold sg;rw[aW]
    rw[es,this]at r3;rw[cJA]at r3;grind
   ·rw[if_neg hc];have hj:=ho (by omega);obtain⟨N,J,r1,r2,r3,r4⟩:=Ea hk f (j+1) p (m+iO k w j) e2 (by omega) (fun h=>by omega);refine⟨N,J,r1,by omega,?_,r4⟩;have:sg j=-1:=by unfold sg;rw[aP]
    rw[es,this]at r3;rw[cJA]at r3;grind
theorem Zg{k:Nat}(hk:2<=k){w:Nat}(hw:w<=1000000):(atan k w).2<=w+2/\ab (((atan k w).1:Rat)-((2^w:Nat):Rat)*Zf k)<=((atan k w).2:Rat)+2:=by
 have h:2^w/k^(2*0+1)<4^(w+2):=by
  rw[Od];exact cFC (cJD _ _) (cGC (by omega) (by omega))
 obtain⟨N,J,r1,r2,r3,r4⟩:=Ea (w:=w) hk (w+2) 0 0 0 h (bYT _) (fun h=>by omega);have e:atan k w=(N,J):=by
  unfold atan;rw[<-r1];simp
 rw[e];have hJ:J<=1048576:=by omega
 have:=aGM hk w hJ r4;refine⟨by dsimp only;omega,?_⟩;dsimp only;have e0:sum (fun i=>sg i*(iO k w i:Rat)) 0=0:=rfl;rw[e0]at r3;have e1:(N:Rat)=sum (fun i=>sg i*(iO k w i:Rat)) J:=by
  have z:((0:Nat):Rat)=0:=by norm_cast
  rw[z]at r3;grind
 rw[e1];exact this
end R
namespace W
open Go AI M
namespace Bv
def E:=mE [(144,iB.aJ),(145,cU.aJ),(250,Pg.aJ)] 55 [52] [(6,[0,1,6,7,20,21])] []
def aF:=bd f231
theorem aX:Nk E aF:=nk
def L6 a b (c:Nat) (d:List Int) e f g:=tM E f231 aF 6 [iZ a,cY b,Dx 2 c 22 d,cY e,cA f,cA g]
theorem start a b:aI E f231 aF [D.s (ints u64 a),D.s (sc (int u64 b))]=letI A:=(a.length:Int);letI B:=A+(1:Int);aO (a.length<=1099511627776) (aB (!iB.pT a) (some [D.s (sc (slice none 0 0)),D.s (sc (int i64 2))]) (if 0<=i64.wrap B/\i64.wrap B<=i64.wrap B/\i64.wrap B<=8796093022208 then Bv.L6 a b (i64.wrap B).toNat (cAW (i64.wrap B).toNat (0:Int)) 0 A 0 else none)):=eJ aX
theorem aGQ a b c d e f g:L6 a b c d e f g=letI C:=a.getD g.toNat 0*b%18446744073709551616+e+0;letI B:=(a.length:Int);letI A:=d.set B.toNat e;aB (decide (g<f)) (if 0<=g/\g<B then aO (0<=a.getD g.toNat 0/\a.getD g.toNat 0<(18446744073709551616:Int)/\0<=b/\b<18446744073709551616) (aO (0<=a.getD g.toNat 0*b%18446744073709551616/\0<=e/\(0:Int)<=(0:Int)/\(0:Int)<=(1:Int)) (if 0<=g/\g<(c:Int)then Bv.L6 a b c (d.set g.toNat (C%18446744073709551616)) (u64.wrap (a.getD g.toNat 0*b/18446744073709551616+C/18446744073709551616)) f (i64.wrap (g+1))else none))else none) (if 0<=B/\B<(c:Int)then aO (M6.dJ A/\A.length<=1099511627776) (some [D.s (ints u64 (bif cU.nL (M6.val A)then M6.dg (M6.val A)else [])),D.s (sc (int i64 (bif cU.nL (M6.val A)then(0:Int)else(5:Int))))])else none):=lJ aX
theorem L{a:List Int}{b:Nat}(ha:M6.dJ a)(hl:a.length<=8192)(hb:b<18446744073709551616):∀(k i:Nat) (pre:List Int) (c:Nat),i+k=a.length->pre.length=i->M6.dJ pre->c<18446744073709551616 ->
  M6.val pre+18446744073709551616^i*c=M6.val (a.take i)*b ->
  L6 a b (a.length+1) (pre ++ cAW (k+1) 0) c a.length i=some [D.s (.ints .u64 (bif cU.nL (M6.val a*b)then M6.dg (M6.val a*b)else [])),D.s (.sc (.int .i64 (bif cU.nL (M6.val a*b)then 0 else 5)))]:=by
 intro k
 induction k with
 |zero =>
  intro i pre c hi hp hd hc hv;rw[M6.dV (by omega)]at hv;have hs:(pre ++ cAW (0+1) 0).set a.length (c:Int)=pre ++ [(c:Int)]:=by
   have:=Ap (pre:=pre) (i:=a.length) (k:=0) (by omega) (c:Int);simpa using this
  have hval:M6.val (pre ++ [(c:Int)])=M6.val a*b:=by
   rw[M6.oU,hp,cCQ];exact hv
  have bMB:M6.dJ (pre ++ [(c:Int)]):=M6.oX hd ⟨cIH _,by omega⟩;rw[aGQ,aL,if_pos ⟨by omega,by omega⟩,cCQ,hs,gP ⟨bMB,by simp;omega⟩,hval]
 |succ k ih =>
  intro i pre c hi hp hd hc hv;have g:=ha.get i;obtain⟨x,hx⟩:=cDX g.1;have aVW:x<18446744073709551616:=by omega
  have bPA:x*b<=18446744073709551615*18446744073709551615:=cJC (by omega) (by omega);have e1:((x:Int)*(b:Int))=((x*b:Nat):Int):=by rw[cEP]
  have tQ:M6.val (pre ++ [(((x*b%18446744073709551616+c)%18446744073709551616:Nat):Int)])+18446744073709551616^(i+1)*(x*b/18446744073709551616+(x*b%18446744073709551616+c)/18446744073709551616)=M6.val (a.take (i+1))*b:=by
   rw[M6.oU,hp,M6.dT,hx,cCQ,cCQ,bZN,<-hv,cDS,cDV (18446744073709551616^i) x b,cDV (18446744073709551616^i) 18446744073709551616];have e:(x*b%18446744073709551616+c)%18446744073709551616+18446744073709551616*(x*b/18446744073709551616+(x*b%18446744073709551616+c)/18446744073709551616)=x*b+c:=by omega
   have e2:=congrArg (18446744073709551616^i*·) e;simp only[cDT]at e2 ⊢;omega
  have bQG:x*b/18446744073709551616+(x*b%18446744073709551616+c)/18446744073709551616<18446744073709551616:=by omega
  have w1:u64.wrap ((x:Int)*(b:Int)/18446744073709551616+((x:Int)*(b:Int)%18446744073709551616+(c:Int)+0)/18446744073709551616)=((x*b/18446744073709551616+(x*b%18446744073709551616+c)/18446744073709551616:Nat):Int):=by
   rw[e1,wrap_u64];omega
  have w2:((x:Int)*(b:Int)%18446744073709551616+(c:Int)+0)%18446744073709551616=(((x*b%18446744073709551616+c)%18446744073709551616:Nat):Int):=by rw[e1];omega
  rw[aGQ,aQ,if_pos ⟨by omega,by omega⟩,cCQ,hx,gP ⟨by omega,by omega,by omega,by omega⟩,gP ⟨by rw[e1];omega,by omega,by omega,by omega⟩,if_pos ⟨by omega,by omega⟩,Ap hp,w1,w2,wrap_i64 (n:=(i:Int)+1),show(i:Int)+1=((i+1:Nat):Int)from rfl];exact ih (i+1) _ _ (by omega) (by simp[hp]) (M6.oX hd ⟨cIH _,by omega⟩) bQG tQ
def sp(a:List Int)(b:Int):Prop×List D:=(M6.cV a/\a.length<=8192/\0<=b/\b<18446744073709551616,[.s (.ints .u64 (bif cU.nL (M6.val a*b.toNat)then M6.dg (M6.val a*b.toNat)else [])),.s (.sc (.int .i64 (bif cU.nL (M6.val a*b.toNat)then 0 else 5)))])
theorem spec:hI E f231 aF (pI .u64) (pN .u64) sp:=by
 rintro a b ⟨ha,hl,h0,h1⟩;obtain⟨n,rfl⟩:=cDX h0;refine(start a n).trans ?_;have w:i64.wrap ((a.length:Int)+1)=((a.length+1:Nat):Int):=by rw[wrap_i64];rfl
 have:=L (b:=n) ha.lM hl (by omega) a.length 0 [] 0 (by omega) rfl M6.qG (by omega) (by simp[M6.val]);rw[gP,iB.oJ ha hl,cAT,bF,w,if_pos ⟨by omega,by omega,by omega⟩,cCQ];rw[cCW]at this;exact this
def aJ:dK:=orc2 (pI .u64) (pN .u64) sp
theorem ok:OK 231 aJ:=(fJ E aF (aA iB.ok (aA cU.ok (aA Pg.ok aD))) func231).nF rfl spec
end Bv
namespace We
def E:=mE [(102,uX.aJ),(100,uY.aJ),(95,oY.aJ)] 26 [14,21] [] []
def aF:=bd f232
theorem aX:Nk E aF:=nk
theorem start a b:aI E f232 aF [D.s (ints u64 a),D.s (sc (int u64 b))]=letI B:=M6.dg b.toNat;letI C:=M6.val a+M6.val B;letI A:=M6.cV a/\M6.cV B/\a.length<=8192/\B.length<=8192;aO (0<=b/\b<18446744073709551616) (aO A (aO (0<=b/\b<18446744073709551616) (aO A (some [D.s (ints u64 (M6.dg (M6.val a-M6.val B))),D.s (ints u64 (bif cU.nL C then M6.dg C else []))])))):=eJ aX
theorem aXU{v n:Nat}(hv:v<18446744073709551616^8000)(hn:n<18446744073709551616):cU.nL (v+n)=true:=by
 unfold cU.nL;refine decide_eq_true (bZP (M6.eI (k:=8001) ?_) (by decide));rw[cDS];have h1:1<=18446744073709551616^8000:=cBT (by decide);generalize 18446744073709551616^8000=X at *;omega
def sp(a:List Int)(b:Int):Prop×List D:=(M6.cV a/\a.length<=8000/\0<=b/\b<18446744073709551616,[.s (.ints .u64 (M6.dg (M6.val a-b.toNat))),.s (.ints .u64 (M6.dg (M6.val a+b.toNat)))])
theorem spec:hI E f232 aF (pI .u64) (pN .u64) sp:=by
 rintro a b ⟨hn,hl,h0,h1⟩;have hb:b.toNat<18446744073709551616:=by omega
 have lb:(M6.dg b.toNat).length<=1:=M6.eI (k:=1) (by rw[Nat.pow_one];exact hb);refine(start a b).trans ?_;have lv:=M6.dW hn.lM;have ok:cU.nL (M6.val a+b.toNat)=true:=aXU (bZQ lv (cBU (by decide) hl)) hb;rw[gP ⟨h0,h1⟩,gP ⟨hn,M6.aZ _,by omega,by omega⟩,gP ⟨h0,h1⟩,gP ⟨hn,M6.aZ _,by omega,by omega⟩,M6.bZ,ok];rfl
def aJ:dK:=orc2 (pI .u64) (pN .u64) sp
theorem ok:OK 232 aJ:=(fJ E aF (aA uX.ok (aA uY.ok (aA oY.ok aD))) func232).nF rfl spec
end We
namespace mA
def E:=mE [(230,dY.aJ),(231,Bv.aJ),(102,uX.aJ),(232,We.aJ)] 45 [42] [] []
def aF:=bd f198
theorem aX:Nk E aF:=nk
theorem start a:aI E f198 aF [D.s (sc (int i64 a))]=letI K:=Arctan.atan (cMV 5) a.toNat;letI I:=Arctan.atan (cMV 239) a.toNat;letI F:=M6.dg K.fst;letI G:=bif cU.nL (M6.val F*16)then M6.dg (M6.val F*16)else [];letI C:=M6.dg I.fst;letI H:=bif cU.nL (M6.val C*4)then M6.dg (M6.val C*4)else [];letI B:=u64.wrap ((16:Int)*(↑((2:Nat)+(3:Nat)*K.snd):Int))+u64.wrap ((4:Int)*(↑((2:Nat)+(3:Nat)*I.snd):Int));letI A:=M6.dg (M6.val G-M6.val H);aO (((2:Int)<=(5:Int)/\(5:Int)<(4294967296:Int))/\0<=a/\a<=150000) (aO (((2:Int)<=(239:Int)/\(239:Int)<(4294967296:Int))/\0<=a/\a<=150000) (aO (M6.cV F/\F.length<=8192/\(0:Int)<=(16:Int)/\(16:Int)<(18446744073709551616:Int)) (aO (M6.cV C/\C.length<=8192/\(0:Int)<=(4:Int)/\(4:Int)<(18446744073709551616:Int)) (aO (M6.cV G/\M6.cV H/\G.length<=8192/\H.length<=8192) (aO (M6.cV A/\A.length<=8000/\0<=u64.wrap B/\u64.wrap B<18446744073709551616) (some [D.s (ints u64 (M6.dg (M6.val A-(u64.wrap B).toNat))),D.s (ints u64 (M6.dg (M6.val A+(u64.wrap B).toNat)))])))))):=eJ aX
def mX(w:Nat):Nat:=(Arctan.atan 5 w).1*16-(Arctan.atan 239 w).1*4
def mO(w:Nat):Nat:=16*(2+3*(Arctan.atan 5 w).2)+4*(2+3*(Arctan.atan 239 w).2)
theorem aVU(w:Nat):mO w<=60*w+160:=by
 have h1:=(Arctan.Gj 5 w).2;have h2:=(Arctan.Gj 239 w).2;unfold mO;omega
def sp(w:Int):Prop×List D:=(0<=w/\w<=150000,[.s (.ints .u64 (M6.dg (mX w.toNat-mO w.toNat))),.s (.ints .u64 (M6.dg (mX w.toNat+mO w.toNat)))])
theorem spec:jL E f198 aF (pN .i64) sp:=by
 rintro w ⟨h0,h1⟩;refine(start w).trans ?_;obtain⟨q,rfl⟩:=cDX h0;have a1:=Arctan.Gj 5 q;have a2:=Arctan.Gj 239 q;have hO:=aVU q;unfold sp;have k1:cMV 5=5:=rfl;have k2:cMV 239=239:=rfl;simp only[cCQ,k1,k2,M6.bZ];have eO:u64.wrap (u64.wrap (16*((2+3*(Arctan.atan 5 q).2:Nat):Int))+u64.wrap (4*((2+3*(Arctan.atan 239 q).2:Nat):Int)))=((mO q:Nat):Int):=by
  rw[wrap_u64 (n:=16*_),wrap_u64 (n:=4*_),wrap_u64];unfold mO;omega
 rw[eO];have hX:mX q<=(Arctan.atan 5 q).1*16:=cFJ _ _;unfold mX at hX ⊢;generalize (Arctan.atan 5 q).1=a at *;generalize (Arctan.atan 239 q).1=b at *;have hp:2^(2*q+4+4)=16*2^(2*q+4):=by rw[cDU];omega
 have b1:a*16<2^(2*q+4+4):=by rw[hp];omega
 have b2:b*4<2^(2*q+4+4):=by rw[hp];omega
 have b3:a*16-b*4<2^(2*q+4+4):=by omega
 have l3:(M6.dg (a*16-b*4)).length<=8000:=gA (k:=8000) (bZP (dG.2 b3) (by omega));rw[gP ⟨⟨by decide,by decide⟩,by omega,by omega⟩,gP ⟨⟨by decide,by decide⟩,by omega,by omega⟩,gP ⟨M6.aZ _,dY.mD a1.1 (by omega),by decide,by decide⟩,gP ⟨M6.aZ _,dY.mD a2.1 (by omega),by decide,by decide⟩,
  dY.aVN b1 (by omega),dY.aVN b2 (by omega),cond_true,cond_true]
 simp only[M6.bZ,cCQ];rw[gP ⟨M6.aZ _,M6.aZ _,dY.mD b1 (by omega),dY.mD b2 (by omega)⟩,gP ⟨M6.aZ _,l3,by omega,by omega⟩]
open R in
theorem num {w:Nat} (bQZ:40<=w) (hw:w<=1000000):R.ab ((mX w:Rat)-((2^w:Nat):Rat)*R.pi)<=(mO w:Rat):=by
 obtain⟨j1,e1⟩:=R.Zg (k:=5) (by decide) hw;obtain⟨j2,e2⟩:=R.Zg (k:=239) (by decide) hw;have hp:=R.eY.1;have hW:(1099511627776:Rat)<=((2^w:Nat):Rat):=by
  have:2^40<=2^w:=cBU (by decide) bQZ;exact_mod_cast this
 have hO:(mO w:Rat)=16*(2+3*((Arctan.atan 5 w).2:Rat))+4*(2+3*((Arctan.atan 239 w).2:Rat)):=by
  unfold mO
  push_cast
  rfl
 have hJ1:((Arctan.atan 5 w).2:Rat)<=1000002:=by exact_mod_cast bZP j1 (by omega)
 have hJ2:((Arctan.atan 239 w).2:Rat)<=1000002:=by exact_mod_cast bZP j2 (by omega)
 have aBM:(0:Rat)<=((Arctan.atan 5 w).2:Rat):=by exact_mod_cast cEU _
 have aTC:(0:Rat)<=((Arctan.atan 239 w).2:Rat):=by exact_mod_cast cEU _
 rw[hO];clear hO;have h3:0<=R.pi-3:=by grind
 have hm:=R.aE (cDY (by decide:(0:Rat)<=1099511627776) hW) h3;have bEK:((2^w:Nat):Rat)*R.pi=16*(((2^w:Nat):Rat)*R.Zf 5)-4*(((2^w:Nat):Rat)*R.Zf 239):=by
  rw[show R.pi=16*R.Zf 5-4*R.Zf 239 from rfl];grind
 have bUU:3*((2^w:Nat):Rat)<=((2^w:Nat):Rat)*R.pi:=by grind
 rw[R.aY]at e1 e2 ⊢;have bWN:(mX w:Rat)=((mX w:Nat):Rat):=rfl;unfold mX;generalize ((2^w:Nat):Rat)*R.pi=WP at *;generalize ((2^w:Nat):Rat)*R.Zf 5=W5 at *;generalize ((2^w:Nat):Rat)*R.Zf 239=W2 at *;generalize ((2^w:Nat):Rat)=W at *;clear hm h3 hp bWN;generalize ((Arctan.atan 5 w).2:Rat)=J1 at *;generalize ((Arctan.atan 239 w).2:Rat)=J2 at *;generalize (Arctan.atan 5 w).1=a at *;generalize (Arctan.atan 239 w).1=b at *;have hle:b*4<=a*16:=by
  have:(b:Rat)*4<=(a:Rat)*16:=by
   obtain⟨e3,e4⟩:=e1;obtain⟨e5,e6⟩:=e2;grind
  exact_mod_cast this
 have hX:((a*16-b*4:Nat):Rat)=(a:Rat)*16-(b:Rat)*4:=by
  have e:(a*16-b*4)+b*4=a*16:=by omega
  have e':((a*16-b*4:Nat):Rat)+(b:Rat)*4=(a:Rat)*16:=by exact_mod_cast e
  grind
 rw[hX];obtain⟨e3,e4⟩:=e1;obtain⟨e5,e6⟩:=e2;constructor <;> grind
def aJ:dK:=orc1 (pN .i64) sp
theorem ok:OK 198 aJ:=(fJ E aF (aA dY.ok (aA Bv.ok (aA uX.ok (aA We.ok aD)))) func198).qB rfl spec
end mA
namespace tB
def E:=mE [(198,mA.aJ),(104,Gv.aJ),(101,Bw.aJ)] 39 [19,25] [(5,[0,4]),(3,[0])] [3]
def aF:=bd f152
theorem aX:Nk E aF:=nk
def J3 a:=mU E f152 aF 3 [cA a]
def L5 a b:=tM E f152 aF 5 [cA a,cA b]
theorem start a:aI E f152 aF [D.s (sc (int i64 a))]=letI A:=some [D.s (sc (slice none 0 0)),D.s (sc (int i64 1))];aB (decide (a<1)) A (aB (decide (70000<a)) A (tB.J3 a)):=eJ aX
theorem iL a:J3 a=tB.L5 a 48:=cJ aX
theorem aGR a b:L5 a b=letI G:=i64.wrap (a+b);letI B:=M6.dg (mA.mX G.toNat+mA.mO G.toNat);letI F:=M6.dg (M6.val B/(2:Nat)^b.toNat);letI A:=M6.dg (mA.mX G.toNat-mA.mO G.toNat);letI C:=M6.dg (M6.val A/(2:Nat)^b.toNat);aO (0<=i64.wrap (a+b)/\i64.wrap (a+b)<=150000) (aO (M6.cV A/\A.length<=8192/\0<=b/\b<4611686018427387904) (aO (M6.cV B/\B.length<=8192/\0<=b/\b<4611686018427387904) (aO (M6.dJ C/\M6.dJ F/\C.length<=1099511627776/\F.length<=1099511627776) (aB (lY (M6.val C) (M6.val F)==0) (some [D.s (ints u64 C),D.s (sc (int i64 0))]) (tB.L5 a (i64.wrap (b*2))))))):=lJ aX
def sp(p:Int):Prop×List D:=(1<=p/\p<=70000,[.s (.ints .u64 (M6.dg (R.pF p.toNat))),.s (.sc (.int .i64 0))])
theorem bDN(w:Nat):mA.mX w<2^(2*w+8):=by
 have a1:=Arctan.Gj 5 w;have hp:2^(2*w+8)=16*2^(2*w+4):=by rw[show 2*w+8=2*w+4+4 by omega,cDU];omega
 have:mA.mX w<=(Arctan.atan 5 w).1*16:=cFJ _ _;omega
theorem spec:jL E f152 aF (pN .i64) sp:=by
 rintro p ⟨h0,h1⟩;refine(start p).trans ?_;obtain⟨q,rfl⟩:=cDX (show 0<=p by omega);have hX:=mA.num (w:=q+48) (by omega) (by omega);have hO:=mA.aVU (q+48);have lX:=bDN (q+48);have bXJ:2*mA.mO (q+48)<=2^(48-24):=by
  have:2^(48-24)=16777216:=by decide
  omega
 obtain⟨o1,o2,o3⟩:=R.bDE (q:=q) (g:=48) (by omega) (by omega) bXJ hX;have ew:i64.wrap ((q:Int)+48)=((q+48:Nat):Int):=by rw[wrap_i64];omega
 unfold sp;rw[aL,aL,iL,aGR,ew,cCQ,cCQ];have hp:2^(2*(q+48)+9)=2*2^(2*(q+48)+8):=by rw[cDS];omega
 have bQZ:2^40<=2^(2*(q+48)+8):=iC;have l1:=dY.mD (n:=mA.mX (q+48)-mA.mO (q+48)) (k:=2*(q+48)+8) (by omega) (by omega);have l2:=dY.mD (n:=mA.mX (q+48)+mA.mO (q+48)) (k:=2*(q+48)+9) (by omega) (by omega);rw[gP ⟨by omega,by omega⟩,gP ⟨M6.aZ _,l1,by decide,by decide⟩,gP ⟨M6.aZ _,l2,by decide,by decide⟩];simp only[M6.bZ,show cMV 48=48 from rfl,o2,o3];have l3:(M6.dg (R.pF q)).length<=8192:=by
  rw[<-o2];exact dY.mD (k:=2*(q+48)+8) (cFC (cJD _ _) (by omega)) (by omega)
 rw[gP ⟨M6.mF _,M6.mF _,by omega,by omega⟩,cD (by unfold lY;simp)]
def aJ:dK:=orc1 (pN .i64) sp
theorem ok:OK 152 aJ:=(fJ E aF (aA mA.ok (aA Gv.ok (aA Bw.ok aD))) func152).qB rfl spec
end tB
namespace uD
def E:=mE [(48,Bz.aJ),(192,jM.aJ)] 37 [] [] []
def aF:=bd f254
theorem aX:Nk E aF:=nk
theorem start a c d b:aI E f254 aF [D.agg [sc (bool a),ints u64 c,sc (int i64 d)],D.s (sc (int i64 b))]=letI C:=i64.wrap ((0:Int)-d)-b;letI B:=wv (a,c)/(↑((2:Nat)^(i64.wrap C).toNat):Int);letI A:=bif fit (M6.val c*(2:Nat)^(i64.wrap (d+b)).toNat)then wv (a,c)*(↑((2:Nat)^(i64.wrap (d+b)).toNat):Int)else(0:Int);aB (decide (0<=i64.wrap (d+b))) (aO (gY (a,c)/\0<=i64.wrap (d+b)/\i64.wrap (d+b)<4611686018427387904) (some [D.agg [sc (bool (isNeg A)),ints u64 (M6.dg A.natAbs)]])) (aO (gY (a,c)/\0<=i64.wrap C/\i64.wrap C<4611686018427387904) (some [D.agg [sc (bool (isNeg B)),ints u64 (M6.dg B.natAbs)]])):=eJ aX
def aNZ(p:Int×Int)(n:Int):Int:=if 0<=p.2+n then p.1*((2^(p.2+n).toNat:Nat):Int)else p.1/((2^(-p.2-n).toNat:Nat):Int)
def sp(x:gQ)(n:Int):Prop×List D:=(aR x/\-1099511627776<=n/\n<=1099511627776/\(0<=x.2.2+n->fit ((dv x).1.natAbs*2^(x.2.2+n).toNat)=true),[wD (aNZ (dv x) n)])
theorem spec:hI E f254 aF jO (pN .i64) sp:=by
 rintro x n ⟨hx,h1,h2,hf⟩;have he:=hx.2.1;refine(start x.1 x.2.1 x.2.2 n).trans ?_;have w1:i64.wrap (x.2.2+n)=x.2.2+n:=wrap_i64;have w2:i64.wrap (i64.wrap (0-x.2.2)-n)=-x.2.2-n:=by rw[wrap_i64 (n:=0-x.2.2),wrap_i64];omega
 have ha:(dv x).1.natAbs=M6.val x.2.1:=iT (x.1,x.2.1);unfold sp aNZ
 by_cases c:0<=x.2.2+n
 ·have aWD:=hf c;rw[ha]at aWD;rw[w1,aQ c,gP ⟨hx.Ez,c,by omega⟩,aWD,cond_true];dsimp only;rw[if_pos (show 0<=(dv x).2+n from c)];rfl
 ·rw[w1,w2,aL c,gP ⟨hx.Ez,by omega,by omega⟩];dsimp only;rw[if_neg (show ¬0<=(dv x).2+n from c)];rfl
def aJ:dK:=orc2 jO (pN .i64) sp
theorem ok:OK 254 aJ:=(fJ E aF (aA Bz.ok (aA jM.ok aD)) func254).nF rfl spec
end uD
namespace tZ
def E:=mE [(96,fW.aJ),(151,Bs.aJ),(102,uX.aJ),(101,Bw.aJ),(190,Zr.aJ)] 66 [31,43,63] [(3,[0,4,5,6])] [3]
def aF:=bd f262
theorem aX:Nk E aF:=nk
def J3 a b c d e f:=mU E f262 aF 3 [cA a,dR 1 27 [cX b,gJ c],dR 2 27 [cX d,gJ e],dR 3 27 [cX f,sc (slice none 0 0)]]
theorem start a b c d e:aI E f262 aF [D.s (sc (int i64 a)),D.agg [sc (bool b),ints u64 c],D.agg [sc (bool d),ints u64 e]]=letI A:=some [D.agg [sc (bool false),sc (slice none 0 0)],D.s (sc (int i64 2))];aO (c.length<=1099511627776) (aC (fW.oN (b,c)) fun f=>aB (!f) A (aO (e.length<=1099511627776) (aC (fW.oN (d,e)) fun g=>aB (!g) A (tZ.J3 a b c d e false)))):=eJ aX
theorem iL a b c d e f:J3 a b c d e f=aB ((e.length:Int)==(0:Int)) (some [D.agg [sc (bool false),sc (slice none 0 0)],D.s (sc (int i64 4))]) (aO (M6.cV c/\c.length<=8192/\M6.cV e/\1<=e.length/\e.length<=8192) (aC (M6.dg (M6.val c/M6.val e)) fun g=>aC (M6.dg (M6.val c%M6.val e)) fun h=>aO (M6.cV e/\M6.cV h/\e.length<=8192/\h.length<=8192) (aC (M6.dg (M6.val e-M6.val h)) fun i=>letI A:=M6.val g+bif nR.nQ a (b !=d) (decide (M6.val g%2=(1:Nat))) (decide (0<(h.length:Int))) (lY (M6.val h) (M6.val i))then(1:Nat)else(0:Nat);letI B:=bif fit A then zs (b !=d) A else(0:Int);aC (if M6.val e<M6.val h then(3:Int)else(0:Int)) fun j=>aB (j !=0) (some [D.agg [sc (bool false),sc (slice none 0 0)],D.s (sc (int i64 j))]) (aO (M6.dJ h/\M6.dJ i/\h.length<=1099511627776/\i.length<=1099511627776) (aO (M6.cV g/\g.length<=8192) (aC (isNeg B) fun k=>aC (M6.dg B.natAbs) fun l=>aC (bif fit A then(0:Int)else(5:Int)) fun m=>some [D.agg [sc (bool k),ints u64 l],D.s (sc (int i64 m))])))))):=cJ aX
def vU(w:Int)(neg:Bool)(u v:Nat):Nat:=u/v+bif nR.nQ w neg (decide (u/v%2=1)) (decide (u%v≠0)) (lY (u%v) (v-u%v))then 1 else 0
def sp(w:Int)(x y:Bool×List Int):Prop×List D:=(gY x/\gY y/\wv y≠0,wE (fit (vU w (x.1 !=y.1) (M6.val x.2) (M6.val y.2))) (zs (x.1 !=y.1) (vU w (x.1 !=y.1) (M6.val x.2) (M6.val y.2))))
theorem spec:pO E f262 aF (pN .i64) oZ oZ sp:=by
 rintro w x y ⟨hx,hy,h0⟩;refine(start w x.1 x.2 y.1 y.2).trans ?_;have l1:=hx.len;have l2:=hy.len;have f1:=fW.lK hx;have f2:=fW.lK hy;have hv0:M6.val y.2≠0:=fun h=>h0 (Ey.2 h)
 have bBT:y.2.length≠0:=fun h=>hv0 ((M6.eF hy.1).1 h)
 have hm:=cBB (M6.val x.2) (show 0<M6.val y.2 by omega);have b1:=hx.bl;have b2:=hy.bl;have q1:=gA (n:=M6.val x.2/M6.val y.2) (k:=8192) (bZP (gM (cJD _ _)) b1);have q2:=gA (n:=M6.val x.2%M6.val y.2) (k:=8192) (bZP (gM (Nat.le_of_lt hm)) b2);have q3:=gA (n:=M6.val y.2-M6.val x.2%M6.val y.2) (k:=8192) (bZP (gM (cFJ _ _)) b2);have hd:decide (0<(((M6.dg (M6.val x.2%M6.val y.2)).length:Nat):Int))=decide (M6.val x.2%M6.val y.2≠0):=by
  have:=M6.jE (n:=M6.val x.2%M6.val y.2)
  by_cases h:M6.val x.2%M6.val y.2=0
  ·rw[decide_eq_false (by have:=this.2 h;omega),decide_eq_false (by omega)]
  ·rw[decide_eq_true (by have:=fun hl=>h (this.1 hl);omega),decide_eq_true h]
 simp only[aH];rw[gP,f1,cAT,bF,gP,f2,cAT,bF,iL];simp only[aH];rw[bJ,gP ⟨hx.1,l1,hy.1,by omega,l2⟩,gP ⟨hy.1,M6.aZ _,l2,by omega⟩,M6.bZ,aP,gF rfl,gP ⟨M6.mF _,M6.mF _,by omega,by omega⟩,gP ⟨M6.aZ _,by omega⟩,hd];simp only[M6.bZ];rfl
def aJ:dK:=orc3 (pN .i64) oZ oZ sp
theorem ok:OK 262 aJ:=(fJ E aF (aA fW.ok (aA Bs.ok (aA uX.ok (aA Bw.ok (aA Zr.ok aD))))) func262).zR rfl spec
end tZ
namespace Ph
def E:=mE [(262,tZ.aJ)] 11 [8] [] []
def aF:=bd f255
theorem aX:Nk E aF:=nk
theorem start a b c d:aI E f255 aF [D.agg [sc (bool a),ints u64 b],D.agg [sc (bool c),ints u64 d]]=letI A:=tZ.vU 2 (a !=c) (M6.val b) (M6.val d);letI B:=bif fit A then zs (a !=c) A else(0:Int);aO (gY (a,b)/\gY (c,d)/\wv (c,d)≠0) (some [D.agg [sc (bool (isNeg B)),ints u64 (M6.dg B.natAbs)],D.s (sc (int i64 (bif fit A then(0:Int)else(5:Int))))]):=eJ aX
def sp(x y:Bool×List Int):Prop×List D:=(gY x/\gY y/\wv y≠0/\fit (tZ.vU 2 false (M6.val x.2) (M6.val y.2))=true,[wD (zs (x.1 !=y.1) (tZ.vU 2 false (M6.val x.2) (M6.val y.2))),.s (.sc (.int .i64 0))])
theorem spec:hI E f255 aF oZ oZ sp:=by
 rintro x y ⟨hx,hy,h0,hf⟩;refine(start x.1 x.2 y.1 y.2).trans ((gP ⟨hx,hy,h0⟩).trans ?_);have e:tZ.vU 2 (x.1 !=y.1) (M6.val x.2) (M6.val y.2)=tZ.vU 2 false (M6.val x.2) (M6.val y.2):=rfl;unfold sp
 try dsimp only
 rw[e,hf];rfl
def aJ:dK:=orc2 oZ oZ sp
theorem ok:OK 255 aJ:=(fJ E aF (aA tZ.ok aD) func255).nF rfl spec
end Ph
namespace aJA
def E:=mE [(96,fW.aJ),(105,Eu.aJ),(49,Gw.aJ)] 25 [22] [(3,[2,3,4])] [3]
def aF:=bd f256
theorem aX:Nk E aF:=nk
def J3 a b c d e:=mU E f256 aF 3 [dR 0 27 [cX a,gJ b],dR 1 27 [cX c,gJ d],dR 2 27 [cX e,sc (slice none 0 0)]]
theorem start a b c d:aI E f256 aF [D.agg [sc (bool a),ints u64 b],D.agg [sc (bool c),ints u64 d]]=letI A:=some [D.agg [sc (bool false),sc (slice none 0 0)],D.s (sc (int i64 2))];aO (b.length<=1099511627776) (aB (!fW.oN (a,b)) A (aO (d.length<=1099511627776) (aB (!fW.oN (c,d)) A (aJA.J3 a b c d false)))):=eJ aX
theorem iL a b c d e:J3 a b c d e=letI C:=zs (!c) (M6.val d);letI A:=(isNeg C,M6.dg C.natAbs);letI B:=bif fit (wv (a,b)+wv A).natAbs then wv (a,b)+wv A else(0:Int);aO (M6.cV d/\d.length<=1099511627776) (aO (gY (a,b)/\gY A) (some [D.agg [sc (bool (isNeg B)),ints u64 (M6.dg B.natAbs)],D.s (sc (int i64 (bif fit (wv (a,b)+wv A).natAbs then(0:Int)else(5:Int))))])):=cJ aX
def sp(x y:Bool×List Int):Prop×List D:=(gY x/\gY y,wE (fit (wv x-wv y).natAbs) (wv x-wv y))
theorem spec:hI E f256 aF oZ oZ sp:=by
 rintro x y ⟨hx,hy⟩;refine(start x.1 x.2 y.1 y.2).trans ?_;have l1:=hx.len;have l2:=hy.len;have f1:=fW.lK hx;have f2:=fW.lK hy;have e1:zs (!y.1) (M6.val y.2)=-(wv y):=by unfold wv zs;cases y.1 <;> simp
 have b2:bl (-(wv y)).natAbs<=524288:=by rw[cFE,iT];exact hy.bl
 rw[gP,f1,cAT,bF,gP,f2,cAT,bF,iL,gP ⟨hy.1,by omega⟩,e1,gP ⟨hx,gI b2⟩,nW];rfl
def aJ:dK:=orc2 oZ oZ sp
theorem ok:OK 256 aJ:=(fJ E aF (aA fW.ok (aA Eu.ok (aA Gw.ok aD))) func256).nF rfl spec
end aJA
namespace aDF
def E:=mE [(256,aJA.aJ),(192,jM.aJ)] 22 [] [] []
def aF:=bd f257
theorem aX:Nk E aF:=nk
theorem start a b d e c:aI E f257 aF [D.agg [sc (bool a),ints u64 b],D.agg [sc (bool d),ints u64 e],D.s (sc (int i64 c))]=letI A:=bif fit (wv (a,b)-wv (d,e)).natAbs then wv (a,b)-wv (d,e)else(0:Int);letI C:=(isNeg A,M6.dg A.natAbs);letI B:=wv C/(↑((2:Nat)^c.toNat):Int);aO (gY (a,b)/\gY (d,e)) (aO (gY C/\0<=c/\c<4611686018427387904) (some [D.agg [sc (bool (isNeg B)),ints u64 (M6.dg B.natAbs)]])):=eJ aX
def sp(x y:Bool×List Int)(n:Int):Prop×List D:=(gY x/\gY y/\fit (wv x-wv y).natAbs=true/\0<=n/\n<4611686018427387904,[wD ((wv x-wv y)/((2^n.toNat:Nat):Int))])
theorem spec:pO E f257 aF oZ oZ (pN .i64) sp:=by
 rintro x y n ⟨h1,h2,h3,h4,h5⟩;have bNG:fit (wv (x.1,x.2)-wv (y.1,y.2)).natAbs=true:=h3;refine(start x.1 x.2 y.1 y.2 n).trans ?_;rw[gP ⟨h1,h2⟩];simp only[bNG,cond_true,nW];exact gP ⟨gI (yR h3),h4,h5⟩
def aJ:dK:=orc3 oZ oZ (pN .i64) sp
theorem ok:OK 257 aJ:=(fJ E aF (aA aJA.ok (aA jM.ok aD)) func257).zR rfl spec
end aDF
namespace aJE
def E:=mE [(96,fW.aJ),(101,Bw.aJ)] 43 [37,42] [(3,[2,3])] [3]
def aF:=bd f263
theorem aX:Nk E aF:=nk
def J3 a b c d:=mU E f263 aF 3 [dR 0 27 [cX a,gJ b],dR 1 27 [cX c,gJ d]]
theorem start a b c d:aI E f263 aF [D.agg [sc (bool a),ints u64 b],D.agg [sc (bool c),ints u64 d]]=letI A:=some [D.s (sc (int i64 0)),D.s (sc (int i64 2))];aO (b.length<=1099511627776) (aB (!fW.oN (a,b)) A (aO (d.length<=1099511627776) (aB (!fW.oN (c,d)) A (aJE.J3 a b c d)))):=eJ aX
theorem iL a b c d:J3 a b c d=letI C:=sc (int i64 0);letI A:=aB a (aO (M6.dJ d/\M6.dJ b/\d.length<=1099511627776/\b.length<=1099511627776) (some [D.s (sc (int i64 (lY (M6.val d) (M6.val b)))),D.s C])) (aO (M6.dJ b/\M6.dJ d/\b.length<=1099511627776/\d.length<=1099511627776) (some [D.s (sc (int i64 (lY (M6.val b) (M6.val d)))),D.s C]));letI B:=aB (!a) (aB c (some [D.s (sc (int i64 1)),D.s C]) A) A;aB a (aB (!c) (some [D.s (sc (int i64 (-1:Int))),D.s C]) B) B:=cJ aX
def mG(a b:Int):Int:=if a<b then -1 else if b<a then 1 else 0
def sp(x y:Bool×List Int):Prop×List D:=(gY x/\gY y,[.s (.sc (.int .i64 (mG (wv x) (wv y)))),.s (.sc (.int .i64 0))])
theorem spec:hI E f263 aF oZ oZ sp:=by
 rintro x y ⟨hx,hy⟩;refine(start x.1 x.2 y.1 y.2).trans ?_;have l1:=hx.len;have l2:=hy.len;have f1:=fW.lK hx;have f2:=fW.lK hy;have d1:=hx.1.lM;have d2:=hy.1.lM;have z1:=hx.2.1;have z2:=hy.2.1;rw[gP,f1,cAT,bF,gP,f2,cAT,bF,iL];unfold sp mG wv zs;obtain⟨p,a⟩:=x;obtain⟨q,b⟩:=y
 try dsimp only at *
 have g1:M6.dJ b/\M6.dJ a/\b.length<=1099511627776/\a.length<=1099511627776:=⟨d2,d1,by omega,by omega⟩;have g2:M6.dJ a/\M6.dJ b/\a.length<=1099511627776/\b.length<=1099511627776:=⟨d1,d2,by omega,by omega⟩;simp only[gP g1,gP g2];cases p with
 |true =>
  have:=z1 rfl;cases q with
  |true =>
   simp only[aB,cAT,cond_true,cond_false];have e:∀z:Int,z=(if -(M6.val a:Int) < -(M6.val b:Int)then -1 else if -(M6.val b:Int) < -(M6.val a:Int)then 1 else 0)->some [D.s (.sc (.int .i64 z)),D.s (.sc (.int .i64 0))]=some [D.s (.sc (.int .i64 (if -(M6.val a:Int) < -(M6.val b:Int)then -1 else if -(M6.val b:Int) < -(M6.val a:Int)then 1 else 0))),D.s (.sc (.int .i64 0))]:=fun z h=>by rw[h]
   refine e _ ?_;unfold lY
   (repeat' split) <;> omega
  |false =>
   simp only[aB,cKD,cond_true,cond_false];rw[aW]
 |false =>
  cases q with
  |true =>
   have:=z2 rfl;simp only[aB,cKD,cond_true,cond_false];rw[aP,aW]
  |false =>
   simp only[aB,cKD,cond_true,cond_false];have e:∀z:Int,z=(if(M6.val a:Int)<(M6.val b:Int)then -1 else if(M6.val b:Int)<(M6.val a:Int)then 1 else 0)->some [D.s (.sc (.int .i64 z)),D.s (.sc (.int .i64 0))]=some [D.s (.sc (.int .i64 (if(M6.val a:Int)<(M6.val b:Int)then -1 else if(M6.val b:Int)<(M6.val a:Int)then 1 else 0))),D.s (.sc (.int .i64 0))]:=fun z h=>by rw[h]
   refine e _ ?_;unfold lY
   (repeat' split) <;> omega
def aJ:dK:=orc2 oZ oZ sp
theorem ok:OK 263 aJ:=(fJ E aF (aA fW.ok (aA Bw.ok aD)) func263).nF rfl spec
end aJE
namespace qO
def E:=mE [(48,Bz.aJ),(49,Gw.aJ),(263,aJE.aJ)] 39 [] [] []
def aF:=bd f258
theorem aX:Nk E aF:=nk
theorem start a b c d e f:aI E f258 aF [D.agg [sc (bool a),ints u64 b],D.agg [sc (bool c),ints u64 d],D.agg [sc (bool e),ints u64 f]]=letI B:=bif fit (M6.val d*4)then wv (c,d)*4 else(0:Int);aO (gY (c,d)/\(0:Int)<=(2:Int)/\(2:Int)<(4611686018427387904:Int)) (aC (isNeg B) fun g=>aC (M6.dg B.natAbs) fun h=>letI A:=bif fit (wv (false,b)+wv (g,h)).natAbs then wv (false,b)+wv (g,h)else(0:Int);aO (gY (false,b)/\gY (g,h)) (aC (isNeg A) fun i=>aC (M6.dg A.natAbs) fun j=>letI C:=bif fit (M6.val j*2)then wv (i,j)*2 else(0:Int);aO (gY (i,j)/\(0:Int)<=(1:Int)/\(1:Int)<(4611686018427387904:Int)) (aC (isNeg C) fun k=>aC (M6.dg C.natAbs) fun l=>aO (gY (k,l)/\gY (e,f)) (aC (aJE.mG (wv (k,l)) (wv (e,f))) fun m=>some [D.s (sc (bool (decide (m<0))))])))):=eJ aX
theorem aUN{n k:Nat}(h:bl n<=k):bl (n*4)<=k+2:=dG.2 (by rw[cDU];exact cLC (dG.1 h) (by decide))
theorem Lm{n k:Nat}(h:bl n<=k):bl (n*2)<=k+1:=dG.2 (by rw[cDS];exact cLC (dG.1 h) (by decide))
theorem Im{a b:Int}{n k:Nat}(ha:bl a.natAbs<=k)(hb:bl b.natAbs<=k)(hn:n=(a+b).natAbs):bl n<=k+1:=dG.2 (by
 have h1:=dG.1 ha;have h2:=dG.1 hb;rw[cDS];generalize 2^k=Q at *;omega)
def aPL(r off pi:Int):Bool:=decide (aJE.mG (((r.natAbs:Int)+off*4)*2) pi<0)
def sp(x y z:Bool×List Int):Prop×List D:=(gY x/\gY y/\gY z/\0<=wv y/\bl (wv x).natAbs<=524000/\bl (wv y).natAbs<=524000,[.s (.sc (.bool (aPL (wv x) (wv y) (wv z))))])
theorem spec:pO E f258 aF oZ oZ oZ sp:=by
 rintro x y z ⟨h1,h2,h3,h0,b1,b2⟩;refine(start x.1 x.2 y.1 y.2 z.1 z.2).trans ?_;have ex:(x.1,x.2)=x:=rfl;have ey:(y.1,y.2)=y:=rfl;have ez:(z.1,z.2)=z:=rfl;have vy:(wv y).natAbs=M6.val y.2:=iT y;have vx:(wv x).natAbs=M6.val x.2:=iT x;have wx:wv (false,x.2)=(((wv x).natAbs:Nat):Int):=by rw[vx];rfl
 have bSQ:gY (false,x.2):=⟨h1.1,fun hf=>(by cases hf),h1.len⟩;have c1:bl (wv y*4).natAbs<=524002:=by
  rw[cEG];exact aUN b2
 have f1:fit (M6.val y.2*4)=true:=decide_eq_true (by
  rw[cEG,vy]at c1;exact bZP c1 (by decide))
 rw[gP ⟨h2,by decide,by decide⟩];simp only[aH,ex,ey,ez,f1,cond_true];have qB:gY (isNeg (wv y*4),M6.dg (wv y*4).natAbs):=gI (bZP c1 (by decide));have c2:bl ((((wv x).natAbs:Nat):Int)+wv y*4).natAbs<=524003:=Im (k:=524002) (by rw[cEJ];exact bZP b1 (by decide)) c1 rfl;have f2:fit ((((wv x).natAbs:Nat):Int)+wv y*4).natAbs=true:=decide_eq_true (bZP c2 (by decide));rw[gP ⟨bSQ,qB⟩];simp only[wx,nW,f2,cond_true,M6.bZ];have nF:gY (isNeg ((((wv x).natAbs:Nat):Int)+wv y*4),M6.dg ((((wv x).natAbs:Nat):Int)+wv y*4).natAbs):=gI (bZP c2 (by decide));have c3:bl (((((wv x).natAbs:Nat):Int)+wv y*4).natAbs*2)<=524004:=Lm c2;have f3:fit (((((wv x).natAbs:Nat):Int)+wv y*4).natAbs*2)=true:=decide_eq_true (bZP c3 (by decide));rw[gP ⟨nF,by decide,by decide⟩,f3,cond_true,gP ⟨gI (by rw[cEG];exact bZP c3 (by decide)),h3⟩];rfl
def aJ:dK:=orc3 oZ oZ oZ sp
theorem ok:OK 258 aJ:=(fJ E aF (aA Bz.ok (aA Gw.ok (aA aJE.ok aD))) func258).zR rfl spec
end qO
namespace cB
def E:=mE [(106,tA.aJ),(152,tB.aJ),(254,uD.aJ),(48,Bz.aJ),(255,Ph.aJ),(200,aJC.aJ),(256,aJA.aJ),(49,Gw.aJ),(244,Ev.aJ),(257,aDF.aJ),(258,qO.aJ)] 90 [89] [] []
def aF:=bd f243
theorem aX:Nk E aF:=nk
theorem start a c d b:aI E f243 aF [D.agg [sc (bool a),ints u64 c,sc (int i64 d)],D.s (sc (int i64 b))]=letI U:=(isNeg 3,M6.dg 3);letI C:=d+(↑(bl (M6.val c)):Int);letI B:=i64.wrap (b+match BinOp.gtr with |BinOp.gtr=>if(0:Int)>i64.wrap C then(0:Int)else i64.wrap C |x=>if 0<i64.wrap C then(0:Int)else i64.wrap C)+8;letI A:=i64.wrap (b+if(0:Int)>i64.wrap C then(0:Int)else i64.wrap C)+8;letI P:=uD.aNZ (dv (a,c,d)) (i64.wrap A);letI I:=i64.wrap (i64.wrap A-b)+1;letI Q:=(↑((2:Nat)^(i64.wrap I).toNat):Int);aO (M6.dJ c/\c.length<=1099511627776) (aO (1<=i64.wrap A/\i64.wrap A<=70000) (aC (M6.dg (R.pF (i64.wrap A).toNat)) fun e=>letI O:=(false,e);aO (aR (a,c,d)/\(-1099511627776:Int)<=i64.wrap A/\i64.wrap A<=1099511627776/\(0<=(a,c,d).snd.snd+i64.wrap B->fit ((dv (a,c,d)).fst.natAbs*(2:Nat)^((a,c,d).snd.snd+i64.wrap B).toNat)=true)) (aC (isNeg P) fun f=>aC (M6.dg P.natAbs) fun g=>letI N:=bif fit (M6.val g*2)then wv (f,g)*2 else(0:Int);aO (gY (f,g)/\(0:Int)<=(1:Int)/\(1:Int)<(4611686018427387904:Int)) (aC (isNeg N) fun h=>aC (M6.dg N.natAbs) fun i=>letI G:=tZ.vU 2 false (M6.val i) (M6.val e);aO (gY (h,i)/\gY O/\wv O≠0/\fit G=true) (aC (isNeg (zs (h !=false) G)) fun j=>aC (M6.dg (zs (h !=false) G).natAbs) fun k=>letI H:=bif fit (wv (j,k)*wv O).natAbs then wv (j,k)*wv O else(0:Int);letI F:=bif fit (wv (false,k)+wv U).natAbs then wv (false,k)+wv U else(0:Int);aO (gY (j,k)/\gY O) (aC (isNeg H) fun l=>aC (M6.dg H.natAbs) fun m=>letI K:=bif fit (wv (h,i)-wv (l,m)).natAbs then wv (h,i)-wv (l,m)else(0:Int);aO (gY (h,i)/\gY (l,m)) (aC (isNeg K) fun n=>aC (M6.dg K.natAbs) fun o=>aO ((-9223372036854775808:Int)<=(3:Int)/\(3:Int)<(9223372036854775808:Int)) (aO (gY (false,k)/\gY U) (aC (isNeg F) fun p=>aC (M6.dg F.natAbs) fun q=>letI T:=wv (n,o)-wv (p,q);aO (gY (n,o)/\gY (p,q)/\fit T.natAbs=true/\0<=i64.wrap I/\i64.wrap I<4611686018427387904) (aC (isNeg (T/Q)) fun r=>aC (M6.dg (T/Q).natAbs) fun s=>aO (gY (n,o)/\gY (p,q)/\gY O/\0<=wv (p,q)/\bl (wv (n,o)).natAbs<=524000/\bl (wv (p,q)).natAbs<=524000) (aC (qO.aPL (wv (n,o)) (wv (p,q)) (wv O)) fun t=>some [D.agg [sc (bool j),ints u64 k],D.agg [sc (bool r),ints u64 s],D.s (sc (bool t))]))))))))))):=eJ aX
def qA(p:Int×Int):Int:=if 0>p.2+(bl p.1.natAbs:Nat)then 0 else p.2+(bl p.1.natAbs:Nat)
def rG(p:Int×Int)(w:Int):Int:=w+qA p+8
def rF(p:Int×Int)(w:Int):Nat:=R.pF (rG p w).toNat
def rX(p:Int×Int)(w:Int):Int:=uD.aNZ p (rG p w)*2
def nK(X:Int)(f:Nat):Int:=zs (isNeg X) (tZ.vU 2 false X.natAbs f)
def rK(p:Int×Int)(w:Int):Int:=nK (rX p w) (rF p w)
def rR(p:Int×Int)(w:Int):Int:=rX p w-rK p w*(rF p w:Nat)
def rO(p:Int×Int)(w:Int):Int:=((rK p w).natAbs:Nat)+3
def rM(p:Int×Int)(w:Int):Int:=(rR p w-rO p w)/((2^(rG p w-w+1).toNat:Nat):Int)
def sp(x:gQ)(w:Int):Prop×List D:=(aR x/\bl (dv x).1.natAbs<=64/\(-1200<=(dv x).2/\(dv x).2<=1200)/\1<=w/\w<=66600,[wD (rK (dv x) w),wD (rM (dv x) w),.s (.sc (.bool (qO.aPL (rR (dv x) w) (rO (dv x) w) (rF (dv x) w:Nat))))])
theorem Ll{n k m:Nat}(h:bl n<=m):bl (n*2^k)<=m+k:=dG.2 (by rw[cDU];exact cLC (dG.1 h) (cBT (by decide)))
theorem aUC(X f:Nat):tZ.vU 2 false X f<=X/f+1:=by
 unfold tZ.vU;cases nR.nQ 2 false (decide (X/f%2=1)) (decide (X%f≠0)) (lY (X%f) (f-X%f)) <;> simp
theorem aVD{X:Int}{f B:Nat}(hX:bl X.natAbs<=B)(hf:bl f<=B)(hB:2<=B) :
  bl (tZ.vU 2 false X.natAbs f)<=B+1/\bl (nK X f*(f:Int)).natAbs<=B+1/\bl (X-nK X f*(f:Int)).natAbs<=B+2/\bl (((nK X f).natAbs:Int)+3).natAbs<=B+2/\bl (X-nK X f*(f:Int)-(((nK X f).natAbs:Int)+3)).natAbs<=B+3:=by
 have h1:=dG.1 hX;have h2:=dG.1 hf;have h3:=aUC X.natAbs f;have h4:X.natAbs/f*f<=X.natAbs:=Nat.div_mul_le_self _ _;have h5:X.natAbs/f<=X.natAbs:=cJD _ _;have h6:tZ.vU 2 false X.natAbs f*f<=X.natAbs+f:=bZP (cAI f h3) (by rw[bZN,cCX];omega);have ek:(nK X f).natAbs=tZ.vU 2 false X.natAbs f:=mB _ _;have h7:(nK X f*(f:Int)).natAbs<=X.natAbs+f:=by rw[cEG,ek,cEJ];exact h6
 have e4:4<=2^B:=bZP (show 4<=2^2 by decide) (cBU (by decide) hB);have p1:2^(B+1)=2*2^B:=by rw[cDS];omega
 have p2:2^(B+2)=4*2^B:=by rw[cDU];omega
 have p3:2^(B+3)=8*2^B:=by rw[cDU];omega
 generalize nK X f*(f:Int)=kf at *;rw[ek];generalize tZ.vU 2 false X.natAbs f=d at *;generalize 2^B=Q at *;refine⟨dG.2 ?_,dG.2 ?_,dG.2 ?_,dG.2 ?_,dG.2 ?_⟩
 ·rw[p1];omega
 ·rw[p1];omega
 ·rw[p2];omega
 ·rw[p2];omega
 ·rw[p3];omega
theorem Tw{g:Nat}(hg:g<=136000):bl (R.pF g)<=g+2/\R.pF g≠0:=by
 obtain⟨h1,h2⟩:=R.Aq hg;obtain⟨q1,q2⟩:=R.eY;have hW:(1:Rat)<=((2^g:Nat):Rat):=by exact_mod_cast cBT (by decide)
 constructor
 ·refine dG.2 ?_;rw[cDU];have:(R.pF g:Rat)<((2^g:Nat):Rat)*4:=by
   have:=R.aE (cDY (by decide:(0:Rat)<=1) hW) (show 0<=3142/1000-R.pi by grind);generalize ((2^g:Nat):Rat)=W at *;grind
  exact_mod_cast this
 ·intro h0;rw[h0]at h2;have z:((0:Nat):Rat)=0:=by norm_cast
  rw[z]at h2;have:=R.aE (cDY (by decide:(0:Rat)<=1) hW) (show 0<=R.pi-3 by grind);generalize ((2^g:Nat):Rat)=W at *;grind
theorem aEM{p:Int×Int}{w:Int}(hz:bl p.1.natAbs<=64)(e1:-1200<=p.2)(e2:p.2<=1200)(w1:1<=w)(w2:w<=66600):bl (rM p w).natAbs<=80004/\bl (rK p w).natAbs<=80002:=by
 have t0:0<=qA p/\qA p<=1264:=by unfold qA;split <;> omega
 have g1:1<=rG p w/\rG p w<=70000:=by unfold rG;omega
 have bGJ:bl (uD.aNZ p (rG p w)).natAbs<=80000:=by
  unfold uD.aNZ;split
  ·rw[cEG,cEJ];exact bZP (Ll hz) (by omega)
  ·exact bZP (gM (uT (cBT (by decide)))) (by omega)
 have Xs:bl (rX p w).natAbs<=80001:=by
  unfold rX;rw[cEG];exact qO.Lm bGJ
 obtain⟨Fs,F0⟩:=Tw (g:=(rG p w).toNat) (by omega);have hF:R.pF (rG p w).toNat=rF p w:=rfl;rw[hF]at Fs F0;obtain⟨s1,s2,s3,s4,s5⟩:=aVD (X:=rX p w) (f:=rF p w) (B:=80001) Xs (by omega) (by decide);refine⟨bZP (gM (uT (cBT (by decide)))) s5,?_⟩;show bl (zs _ _).natAbs<=_;rw[mB];exact s1
theorem spec:hI E f243 aF jO (pN .i64) sp:=by
 rintro x w ⟨hx,hz,⟨e1,e2⟩,w1,w2⟩;refine(start x.1 x.2.1 x.2.2 w).trans ?_;have ha:(dv x).1.natAbs=M6.val x.2.1:=iT (x.1,x.2.1);have aJP:x.2.2=(dv x).2:=rfl;have aYG:(x.1,x.2.1,x.2.2)=x:=rfl;have len:=hx.len;unfold sp;dsimp only;simp only[aYG,aJP,<-ha];have hT:qA (dv x)=if 0>(dv x).2+(bl (dv x).1.natAbs:Nat)then 0 else(dv x).2+(bl (dv x).1.natAbs:Nat):=rfl
 have wt:i64.wrap ((dv x).2+((bl (dv x).1.natAbs:Nat):Int))=(dv x).2+((bl (dv x).1.natAbs:Nat):Int):=wrap_i64;have t0:0<=qA (dv x)/\qA (dv x)<=1264:=by rw[hT];split <;> omega
 have t1:(dv x).2+(bl (dv x).1.natAbs:Nat)<=qA (dv x):=by rw[hT];split <;> omega
 have hG:rG (dv x) w=w+qA (dv x)+8:=rfl;have wg:i64.wrap (i64.wrap (w+qA (dv x))+8)=rG (dv x) w:=by rw[wrap_i64 (n:=w+qA (dv x)),wrap_i64,hG]
 have wl:i64.wrap (i64.wrap (rG (dv x) w-w)+1)=rG (dv x) w-w+1:=by rw[wrap_i64 (n:=rG (dv x) w-w),wrap_i64]
 simp only[wt,<-hT,wg,wl,aH];have g1:1<=rG (dv x) w/\rG (dv x) w<=70000:=by omega
 have bGJ:bl (uD.aNZ (dv x) (rG (dv x) w)).natAbs<=80000:=by
  unfold uD.aNZ;split
  ·rw[cEG,cEJ];exact bZP (Ll hz) (by omega)
  ·exact bZP (gM (uT (cBT (by decide)))) (by omega)
 have Xs:bl (rX (dv x) w).natAbs<=80001:=by
  unfold rX;rw[cEG];exact qO.Lm bGJ
 obtain⟨Fs,F0⟩:=Tw (g:=(rG (dv x) w).toNat) (by omega);have hF:R.pF (rG (dv x) w).toNat=rF (dv x) w:=rfl;rw[hF]at Fs F0;obtain⟨s1,s2,s3,s4,s5⟩:=aVD (X:=rX (dv x) w) (f:=rF (dv x) w) (B:=80001) Xs (by omega) (by decide);have aNL:(0:Int)<=x.2.2+rG (dv x) w->fit ((dv x).1.natAbs*2^(x.2.2+rG (dv x) w).toNat)=true:=fun _=>decide_eq_true (bZP (Ll hz) (by omega))
 rw[gP ⟨hx.Jy.lM,by omega⟩,gP g1,gP ⟨hx,by omega,by omega,aNL⟩];have aYF:(x.1,x.2.1,(dv x).2)=x:=rfl;have f1:fit ((uD.aNZ (dv x) (rG (dv x) w)).natAbs*2)=true:=decide_eq_true (bZP (qO.Lm bGJ) (by decide));have eX:uD.aNZ (dv x) (rG (dv x) w)*2=rX (dv x) w:=rfl;have eK:zs (isNeg (rX (dv x) w)) (tZ.vU 2 false (rX (dv x) w).natAbs (rF (dv x) w))=rK (dv x) w:=rfl;have vN:∀n:Nat,wv (false,M6.dg n)=(n:Int):=fun n=>by show(M6.val (M6.dg n):Int)=n;rw[M6.bZ]
 have wN:∀n:Nat,bl n<=524288->gY (false,M6.dg n):=fun n hn=>by
  have:=gI (z:=(n:Int)) (by rw[cEJ];exact hn);rw[jB.2 (by omega),cEJ]at this;exact this
 have v3:wv (isNeg 3,M6.dg 3)=3:=nW 3;have k3:gY (isNeg 3,M6.dg 3):=gI (z:=3) (by decide +kernel);have kK:(rK (dv x) w).natAbs=tZ.vU 2 false (rX (dv x) w).natAbs (rF (dv x) w):=mB _ _;rw[show nK (rX (dv x) w) (rF (dv x) w)=rK (dv x) w from rfl]at s2 s3 s4 s5;have f2:fit (rK (dv x) w*(rF (dv x) w:Nat)).natAbs=true:=decide_eq_true (bZP s2 (by decide));have f3:fit (rX (dv x) w-rK (dv x) w*(rF (dv x) w:Nat)).natAbs=true:=decide_eq_true (bZP s3 (by decide));have f4:fit (((rK (dv x) w).natAbs:Int)+3).natAbs=true:=decide_eq_true (bZP s4 (by decide));have f5:fit (rX (dv x) w-rK (dv x) w*(rF (dv x) w:Nat)-(((rK (dv x) w).natAbs:Int)+3)).natAbs=true:=decide_eq_true (bZP s5 (by decide));simp only[aYF,hF,nW,M6.bZ,f1,cond_true,eX,Bool.bne_false,eK,vN,v3,f2,f3,f4];rw[gP ⟨gI (bZP bGJ (by decide)),by decide,by decide⟩,gP ⟨gI (bZP Xs (by decide)),wN _ (by omega),by omega,decide_eq_true (bZP s1 (by decide))⟩,
  gP ⟨gI (by rw[kK];exact bZP s1 (by decide)),wN _ (by omega)⟩,gP ⟨gI (bZP Xs (by decide)),gI (bZP s2 (by decide))⟩,gP ⟨by decide,by decide⟩,
  gP ⟨wN _ (by rw[kK];exact bZP s1 (by decide)),k3⟩,gP ⟨gI (bZP s3 (by decide)),gI (bZP s4 (by decide)),f5,by omega,by omega⟩,
  gP ⟨gI (bZP s3 (by decide)),gI (bZP s4 (by decide)),wN _ (by omega),by omega,bZP s3 (by decide),bZP s4 (by decide)⟩]
 rfl
def aJ:dK:=orc2 jO (pN .i64) sp
theorem ok:OK 243 aJ:=(fJ E aF (aA tA.ok (aA tB.ok (aA uD.ok (aA Bz.ok (aA Ph.ok (aA aJC.ok (aA aJA.ok (aA Gw.ok (aA Ev.ok (aA aDF.ok (aA qO.ok aD))))))))))) func243).nF rfl spec
end cB
namespace bA
def E:=mE [(241,Wk.aJ),(242,uC.aJ),(243,cB.aJ),(192,jM.aJ),(244,Ev.aJ),(49,Gw.aJ),(50,jQ.aJ),(109,aJD.aJ),(110,tY.aJ)] 105 [33,98] [(3,[0,1,5])] [3]
def aF:=bd f211
theorem aX:Nk E aF:=nk
def J3 a b c d e f:=mU E f211 aF 3 [cY a,cA b,dR 2 44 [cX c,sc (slice none 0 0),dC d,cX e,sc (slice none 0 0),dC f]]
theorem start a b:aI E f211 aF [D.s (sc (int u64 a)),D.s (sc (int i64 b))]=letI B:=int i64 0;letI A:=some [D.s (sc B),D.agg [sc (bool false),sc (slice none 0 0),sc B,sc (bool false),sc (slice none 0 0),sc B],D.s (sc (int i64 1))];aB (decide (b<1)) A (aB (decide (68000<b)) A (bA.J3 a b false 0 false 0)):=eJ aX
theorem iL a b c d e f:J3 a b c d e f=letI O:=int i64 0;letI H:=(isNeg 4,M6.dg 4);letI C:=i64.wrap ((0:Int)-i64.wrap (b+8));letI B:=if(72:Int)>i64.wrap (b+8)then(72:Int)else i64.wrap (b+8);letI P:=B-i64.wrap (b+8);letI A:=bif cC.fB 64 a&&cN.jW 64 a then aN (bC.kF 64 a) (bC.lW 64 a)else((0:Int),(0:Int));letI Q:=M6.dg A.fst.natAbs;aO (0<=a/\a<18446744073709551616) (aC (isNeg A.fst) fun g=>aC Q fun h=>aC A.snd fun i=>letI I:=dv (g,h,i);aC (bif cC.fB 64 a then bif cN.jW 64 a then(0:Int)else(6:Int)else(2:Int)) fun j=>aB (j !=0) (some [D.s (sc O),D.agg [sc (bool false),sc (slice none 0 0),sc O,sc (bool false),sc (slice none 0 0),sc O],D.s (sc (int i64 j))]) (aO (aR (g,h,i)) (aC (uC.aQQ I) fun k=>aB k (aO (0<=a/\a<18446744073709551616) (aC (isNeg A.fst) fun l=>aC Q fun m=>aC A.snd fun n=>some [D.s (sc O),D.agg [sc (bool g),ints u64 h,sc (int i64 i),sc (bool l),ints u64 m,sc (int i64 n)],D.s (sc O)])) (aO (aR (g,h,i)/\bl I.fst.natAbs<=64/\((-1200:Int)<=I.snd/\I.snd<=1200)/\(1<=if(72:Int)>i64.wrap (b+8)then(72:Int)else i64.wrap (b+8))/\B<=66600) (aC (isNeg (cB.rK I B)) fun o=>aC (M6.dg (cB.rK I B).natAbs) fun p=>aC (isNeg (cB.rM I B)) fun q=>aC (M6.dg (cB.rM I B).natAbs) fun r=>letI K:=wv (q,r)/(↑((2:Nat)^(i64.wrap P).toNat):Int);aO (gY (q,r)/\0<=i64.wrap P/\i64.wrap P<4611686018427387904) (aC (isNeg K) fun s=>aC (M6.dg K.natAbs) fun t=>letI N:=bif fit (wv (s,t)+wv H).natAbs then wv (s,t)+wv H else(0:Int);letI F:=bif iF (wv (s,t)) C then aN (wv (s,t)) C else((0:Int),(0:Int));aO ((-9223372036854775808:Int)<=(4:Int)/\(4:Int)<(9223372036854775808:Int)) (aO (gY (s,t)/\gY H) (aC (isNeg N) fun u=>aC (M6.dg N.natAbs) fun v=>letI G:=bif iF (wv (u,v)) C then aN (wv (u,v)) C else((0:Int),(0:Int));aO (gY (s,t)/\(-9223372036854775808:Int)<=i64.wrap ((0:Int)-i64.wrap (b+8))/\i64.wrap ((0:Int)-i64.wrap (b+8))<9223372036854775808) (aC (isNeg F.fst) fun w=>aC (M6.dg F.fst.natAbs) fun x=>aC F.snd fun y=>aO (gY (u,v)/\(-9223372036854775808:Int)<=i64.wrap ((0:Int)-i64.wrap (b+8))/\i64.wrap ((0:Int)-i64.wrap (b+8))<9223372036854775808) (aC (isNeg G.fst) fun z=>aC (M6.dg G.fst.natAbs) fun aa=>aC G.snd fun ab=>aO ((-9223372036854775808:Int)<=(4:Int)/\(4:Int)<(9223372036854775808:Int)) (aO (gY (o,p)/\gY H/\isNeg 4=false/\1<=(M6.dg 4).length) (aC (isNeg (wv (o,p)%wv H)) fun ac=>aC (M6.dg (wv (o,p)%wv H).natAbs) fun ad=>aO (gY (ac,ad)) (aC (bif tY.tG (wv (ac,ad))then wv (ac,ad)else(0:Int)) fun ae=>some [D.s (sc (int i64 ae)),D.agg [sc (bool w),ints u64 x,sc (int i64 y),sc (bool z),ints u64 aa,sc (int i64 ab)],D.s (sc O)]))))))))))))):=cJ aX
def qW(b:Int):Int×Int:=aN (bC.kF 64 b) (bC.lW 64 b)
def cW(p:Int):Int:=if 72>p+8 then 72 else p+8
def cM(x:Int×Int)(p:Int):Int:=cB.rM x (cW p)/((2^(cW p-(p+8)).toNat:Nat):Int)
def cQ(x:Int×Int)(p:Int):Int:=bif uC.aQQ x then 0 else cB.rK x (cW p)%4
def aAC(x:Int×Int)(p:Int):Int×Int:=bif uC.aQQ x then x else aN (cM x p) (-(p+8))
def aAD(x:Int×Int)(p:Int):Int×Int:=bif uC.aQQ x then x else aN (cM x p+4) (-(p+8))
def sp(b p:Int):Prop×List D:=((0<=b/\b<18446744073709551616)/\cC.fB 64 b=true/\cN.jW 64 b=true/\(1<=p/\p<=66590)/\kE (qW b)/\bl (qW b).1.natAbs<=64/\-1200<=(qW b).2/\(qW b).2<=1200,[.s (.sc (.int .i64 (cQ (qW b) p))),wG (aAC (qW b) p) (aAD (qW b) p),.s (.sc (.int .i64 0))])
theorem aGL{z:Int}{k:Nat}(h:bl z.natAbs<=k)(hk:3<=k):bl (z+4).natAbs<=k+1:=qO.Im h (by rw[show(4:Int).natAbs=4 from rfl,show bl 4=3 from rfl];exact hk) rfl
theorem spec:hI E f211 aF (pN .u64) (pN .i64) sp:=by
 rintro b p ⟨hb,hp,hf,⟨p1,p2⟩,hx,hz,e1,e2⟩;refine(start b p).trans ?_;unfold sp cQ aAC aAD;dsimp only;have eb:(bif cC.fB 64 b&&cN.jW 64 b then aN (bC.kF 64 b) (bC.lW 64 b)else(0,0))=qW b:=by rw[hp,hf];rfl
 have ee:(bif cC.fB 64 b then(bif cN.jW 64 b then 0 else 6)else 2:Int)=0:=by rw[hp,hf];rfl
 have dk:=dP hx;have dc:=dX (qW b);rw[aL,aL,iL,gP hb];simp only[aH,eb,ee,dc];rw[gF rfl,gP dk];cases hs:uC.aQQ (qW b)with
 |true =>
  rw[cond_true,cond_true,cond_true];show aO _ _=_;rw[gP hb];rfl
 |false =>
  rw[cond_false,cond_false,cond_false];show aO _ _=_;have w8:i64.wrap (p+8)=p+8:=wrap_i64;have eW:(if 72>p+8 then 72 else p+8)=cW p:=rfl;have hW:1<=cW p/\cW p<=66600/\p+8<=cW p:=by unfold cW;split <;> omega
  have wd:i64.wrap (cW p-(p+8))=cW p-(p+8):=wrap_i64;have w0:i64.wrap (0-(p+8))=-(p+8):=by rw[wrap_i64];omega
  obtain⟨sM,sK⟩:=cB.aEM (p:=qW b) (w:=cW p) hz e1 e2 hW.1 hW.2.1;have v4:wv (isNeg 4,M6.dg 4)=4:=nW 4;have k4:gY (isNeg 4,M6.dg 4):=gI (z:=4) (by decide +kernel);have eM:cB.rM (qW b) (cW p)/((2^(cW p-(p+8)).toNat:Nat):Int)=cM (qW b) p:=rfl;have sC:bl (cM (qW b) p).natAbs<=80004:=bZP (gM (uT (cBT (by decide)))) sM;have bOK:=aGL sC (by decide);have f4:fit (cM (qW b) p+4).natAbs=true:=decide_eq_true (bZP bOK (by decide));have i1:iF (cM (qW b) p) (-(p+8))=true:=iD (by omega) (by omega);have i2:iF (cM (qW b) p+4) (-(p+8))=true:=iD (by omega) (by omega);have m4:0<=cB.rK (qW b) (cW p)%4/\cB.rK (qW b) (cW p)%4<4:=by omega
  have sm:tY.tG (cB.rK (qW b) (cW p)%4)=true:=by
   unfold tY.tG;simp only[bYZ,decide_eq_true_eq];omega
  have b3:bl (cB.rK (qW b) (cW p)%4).natAbs<=3:=dG.2 (by have:(2:Nat)^3=8:=rfl;omega);have l4:(M6.dg 4).length=1:=by decide +kernel
  simp only[w8,eW,wd,w0,nW,v4,eM,f4,i1,i2,sm,cond_true];rw[gP ⟨dk,hz,⟨e1,e2⟩,hW.1,hW.2.1⟩,gP ⟨gI (bZP sM (by decide)),by omega,by omega⟩,gP ⟨by decide,by decide⟩,gP ⟨gI (bZP sC (by decide)),k4⟩,
   gP ⟨gI (bZP sC (by decide)),by omega,by omega⟩,gP ⟨gI (bZP bOK (by decide)),by omega,by omega⟩,gP ⟨by decide,by decide⟩,
   gP ⟨gI (bZP sK (by decide)),k4,by decide,by omega⟩,gP (gI (bZP b3 (by decide)))]
  rfl
def aJ:dK:=orc2 (pN .u64) (pN .i64) sp
theorem ok:OK 211 aJ:=(fJ E aF (aA Wk.ok (aA uC.ok (aA cB.ok (aA jM.ok (aA Ev.ok (aA Gw.ok (aA jQ.ok (aA aJD.ok (aA tY.ok aD))))))))) func211).nF rfl spec
end bA
end W
namespace M
open Go AI W
theorem aIN{u v:Nat}(hv:0<v):2*u<=2*(tZ.vU 2 false u v*v)+v/\2*(tZ.vU 2 false u v*v)<=2*u+v:=by
 have hd:=cDZ u v;have hm:=cBB u hv;have hc:v*(u/v)=u/v*v:=cDR _ _;unfold tZ.vU nR.nQ
 by_cases h:v-u%v<=u%v
 ·cases hb:(bif (2:Int)==0 then false&&decide (u%v≠0)else bif (2:Int)==1 then !false&&decide (u%v≠0)else(decide (0<lY (u%v) (v-u%v))||(lY (u%v) (v-u%v)==0&&decide (u/v%2=1))))with
  |true=>rw[cond_true,bZN,cCX];omega
  |false =>
   rw[cond_false,bZR];have Be:¬0<lY (u%v) (v-u%v):=by
    intro hh;rw[decide_eq_true hh]at hb
    revert hb
    simp
   have:u%v<=v-u%v:=by
    unfold lY at Be;split at Be
    ·omega
    ·split at Be <;> omega
   omega
 ·have e:lY (u%v) (v-u%v)=-1:=by unfold lY;rw[aW]
  rw[e];have hb:(bif (2:Int)==0 then false&&decide (u%v≠0)else bif (2:Int)==1 then !false&&decide (u%v≠0)else(decide ((0:Int) < -1)||((-1:Int)==0&&decide (u/v%2=1))))=false:=by
   cases decide (u/v%2=1) <;> rfl
  rw[hb,cond_false,bZR];omega
theorem aSR{X:Int}{f:Nat}(hf:0<f):-(f:Rat)<=2*((X:Rat)-(cB.nK X f:Rat)*(f:Rat))/\2*((X:Rat)-(cB.nK X f:Rat)*(f:Rat))<=(f:Rat):=by
 obtain⟨d1,d2⟩:=aIN (u:=X.natAbs) hf;have h:-(f:Int)<=2*(X-cB.nK X f*(f:Int))/\2*(X-cB.nK X f*(f:Int))<=(f:Int):=by
  have bYF:2*(X.natAbs:Int)<=2*((tZ.vU 2 false X.natAbs f:Nat)*(f:Int))+f:=by exact_mod_cast d1
  have bYE:2*((tZ.vU 2 false X.natAbs f:Nat)*(f:Int))<=2*(X.natAbs:Int)+f:=by exact_mod_cast d2
  unfold cB.nK;generalize tZ.vU 2 false X.natAbs f=d at *;cases hb:isNeg X with
  |true =>
   have:X<0:=oI.1 hb;have e:zs true d*(f:Int)=-((d:Int)*(f:Int)):=by show -(d:Int)*_=_;rw[cID]
   rw[e];generalize (d:Int)*(f:Int)=P at *;omega
  |false =>
   have:0<=X:=jB.1 hb;have e:zs false d*(f:Int)=(d:Int)*(f:Int):=rfl;rw[e];generalize (d:Int)*(f:Int)=P at *;omega
 obtain⟨h1,h2⟩:=h;constructor
 ·have:((-(f:Int):Int):Rat)<=((2*(X-cB.nK X f*(f:Int)):Int):Rat):=by exact_mod_cast h1
  rw[cLS,cKB,cMU,cKB,cKC]at this;exact this
 ·have:((2*(X-cB.nK X f*(f:Int)):Int):Rat)<=((f:Int):Rat):=by exact_mod_cast h2
  rw[cKB,cMU,cKB,cKC]at this;exact this
theorem aKT{q:Rat}{a b:Int}(h1:R.pz a<=q)(h2:q<R.pz (a+1))(h3:R.pz b<=q)(h4:q<R.pz (b+1)):a=b:=by
 have:R.pz a<R.pz (b+1):=by grind
 have:=R.xI.1 this;have:R.pz b<R.pz (a+1):=by grind
 have:=R.xI.1 this;omega
theorem aXC{p q:Int×Int}(hp:p.1≠0)(h:R.qz p=R.qz q):bB p=bB q:=by
 have hq:q.1≠0:=Jh (by rw[<-h];exact aVH hp);obtain⟨a,b⟩:=pJ hp;obtain⟨c,d⟩:=pJ hq;rw[h]at a b;exact aKT a b c d
structure bBF(z e:Int):Prop where
 z0:z≠0
 z1:z.natAbs<9007199254740992
 e0:-1074<=e
 e1:e<=971
theorem aGP(z:Int):R.ab (z:Rat)=(z.natAbs:Rat):=by
 unfold R.ab
 by_cases hz:0<=z
 ·rw[if_pos (by exact_mod_cast hz),<-cKC];congr 1;omega
 ·rw[if_neg (by intro hc;exact hz (by exact_mod_cast hc)),<-cKC,<-cLS];congr 1;omega
theorem aEA(p:Int×Int):uC.aQQ p=decide (R.ab (R.qz p)<=3/4):=by
 unfold uC.aQQ;have e:R.qz (3,-2)=3/4:=by
  unfold R.qz;dsimp only;rw[show(-2:Int)=-((2:Nat):Int) by rfl,R.yJ];have h3:R.hf 2=1/4:=by simp[R.hf];grind
  have:((3:Int):Rat)=3:=by norm_cast
  rw[h3,this];grind
 by_cases h:R.ab (R.qz p)<=3/4
 ·rw[decide_eq_true h];refine decide_eq_true (lN.2 ?_);rw[Ec,e];exact h
 ·rw[decide_eq_false h];refine decide_eq_false fun hc=>h ?_
  have:=lN.1 hc;rwa [Ec,e]at this
structure aDD(x:Int×Int):Prop where
 wL:kE x
 ne:x.1≠0
 bl:bl x.1.natAbs<=53
 t0:-1074<=bB x
 t1:bB x<=1023
 e0:-1074<=x.2
 e1:x.2<=1023
 fit:R.Fit (R.qz x)
 bIS:¬R.ab (R.qz x)<=3/4->-53<=x.2/\R.bHD (R.qz x)
theorem bGO{z e:Int}(h:bBF z e):aDD (aN z e):=by
 obtain⟨z0,z1,e0,e1⟩:=h;have bz:bl z.natAbs<=53:=dG.2 (by have:(2:Nat)^53=9007199254740992:=rfl;omega);have b0:=qJ (n:=z.natAbs) (by omega);have q:=nY z e;have q':R.qz (aN z e)=R.qz (z,e):=q;have ne:(aN z e).1≠0:=fun hz=>z0 (dU.1 hz)
 have tt:=aXC ne q';have t':bB (z,e)=e+(bl z.natAbs:Nat)-1:=rfl;have ge:=qC (e:=e) z0;have bb:=wO z e;have b1:=qJ (n:=(aN z e).1.natAbs) (by omega);have te:bB (aN z e)=(aN z e).2+(bl (aN z e).1.natAbs:Nat)-1:=rfl;have wL:kE (aN z e):=gZ (iD (by omega) (by omega)) (by omega);have num:¬R.ab (R.qz (aN z e))<=3/4->-53<=e/\R.bHD (R.qz (aN z e)):=by
  intro hb;have he:-53<=e:=by
   refine Int.not_lt.1 fun hn=>hb ?_
   have h2:=(pJ (p:=(z,e)) z0).2;have:R.pz (bB (z,e)+1)<=R.pz (-1):=R.cF (by omega);have p1:R.pz (-1)*2=1:=by
    have:=R.mP 0;rw[R.eB]at this;exact this
   rw[q'];grind
  refine⟨he,(z.natAbs:Int),e,by omega,by omega,he,e1,?_⟩;rw[q',cKC,<-aGP];show(z:Rat)*R.pz e=_\/(z:Rat)*R.pz e=_;unfold R.ab;split
  ·left;rfl
  ·right;grind
 refine⟨wL,ne,by omega,by omega,by omega,by omega,by omega,?_,fun hb=>⟨by have:=(num hb).1;omega,(num hb).2⟩⟩
 by_cases c:R.ab (R.qz (aN z e))<=3/4
 ·exact Or.inr c
 ·exact Or.inl (num c).2
theorem aRW{G q K f M P W p:Rat}(hG:G=W*(256*P))(P1:1<=P)(W1:1<=W)(aq:R.ab q<=P)(f0:0<=f)(f1:f<=G*p)(f2:G*p<f+1)(p1:314159/100000<p)(p2:p<314160/100000)
  (n1:-f<=2*(2*(G*q)-K*f)) (n2:2*(2*(G*q)-K*f)<=f) (m1:M*(512*P)<=2*(G*q)-K*f-(R.ab K+3)) (m2:2*(G*q)-K*f-(R.ab K+3)<(M+1)*(512*P)) :
  M<=W*(q-K*(p/2))/\W*(q-K*(p/2))<=M+2/\W*R.ab (q-K*(p/2))<=W*(p/4)+1:=by
 have WP:=R.aE (show 0<=W-1 by grind) (show 0<=P-1 by grind);have G1:256<=G:=by rw[hG];grind
 have Gp:=R.aE (show 0<=G by grind) (show 0<=p-314159/100000 by grind);have Gp2:=R.aE (show 0<=G by grind) (show 0<=314160/100000-p by grind);have f3:3*G<=f:=by grind
 have f4:f<=4*G:=by grind
 have k0:=R.aM K;have eX:R.ab (2*(G*q))=2*(G*R.ab q):=by
  rw[R.fX,R.fX,R.bP (show(0:Rat)<=2 by grind),R.bP (show 0<=G by grind)]
 have eK:R.ab (K*f)=R.ab K*f:=by rw[R.fX,R.bP f0]
 have aKf:R.ab K*f<=2*(G*R.ab q)+f/2:=by
  rw[<-eK,<-eX];have a1:=R.Dm (2*(G*q));have a2:=R.oH (2*(G*q));rw[R.aY];constructor <;> grind
 have g1:=R.aE (show 0<=G by grind) (show 0<=P-R.ab q by grind);have g2:=R.aE k0 (show 0<=f-3*G by grind);have aK:3*R.ab K<=2*P+2:=by
  refine R.cG (q:=G) (by grind) ?_;grind
 have kd:R.ab (K*(G*p-f))<=R.ab K:=by
  rw[R.fX,R.bP (show 0<=G*p-f by grind)];have:=R.aE k0 (show 0<=1-(G*p-f) by grind);grind
 rw[R.aY]at kd;have e2:2*(G*q)-K*f-K*(G*p-f)=512*P*(W*(q-K*(p/2))):=by rw[hG];grind
 have P0:0<512*P:=by grind
 refine⟨?_,?_,?_⟩
 ·refine R.cG P0 ?_;rw[<-e2];generalize K*(G*p-f)=Z at *;grind
 ·refine R.cG P0 ?_;rw[<-e2];generalize K*(G*p-f)=Z at *;grind
 ·refine R.cG P0 ?_;have e3:512*P*(W*R.ab (q-K*(p/2)))=R.ab (512*P*(W*(q-K*(p/2)))):=by
   rw[R.fX (512*P),R.fX W,R.bP (cEA P0),R.bP (show 0<=W by grind)]
  rw[e3,<-e2,R.aY];have e4:512*P*(W*(p/4)+1)=G*p/2+512*P:=by rw[hG];grind
  rw[e4];generalize K*(G*p-f)=Z at *;constructor <;> grind
structure bAP(x:Int×Int)(w k:Int):Prop where
 aBE:R.rA (R.qz x) k
 q:bA.cQ x w=k%4
 pl:kE (bA.aAC x w)
 ph:kE (bA.aAD x w)
 lo:R.qz (bA.aAC x w)<=R.qz x-(k:Rat)*(R.pi/2)
 hi:R.qz x-(k:Rat)*(R.pi/2)<=R.qz (bA.aAD x w)
 wd:R.qz (bA.aAD x w)-R.qz (bA.aAC x w)<=R.pz (57-w)*R.ab (R.qz x-(k:Rat)*(R.pi/2))
 rg:R.pz (-1074)<=R.ab (R.qz x-(k:Rat)*(R.pi/2))
theorem Ku{x:Int×Int}{w:Int}(hx:aDD x)(hw:64<=w/\w<=66590):∃k,bAP x w k:=by
 obtain⟨q1,q2⟩:=R.eY
 by_cases c:R.ab (R.qz x)<=3/4
 ·have sm:uC.aQQ x=true:=by rw[aEA,decide_eq_true c]
  have k0:((0:Int):Rat)=0:=by norm_cast
  have dL:bA.aAC x w=x:=by unfold bA.aAC;rw[sm];rfl
  have dH:bA.aAD x w=x:=by unfold bA.aAD;rw[sm];rfl
  have er:R.qz x-((0:Int):Rat)*(R.pi/2)=R.qz x:=by rw[k0];grind
  refine⟨0,?_,by unfold bA.cQ;rw[sm];rfl,by rw[dL];exact hx.wL,by rw[dH];exact hx.wL,by rw[dL,er];exact cFB,by rw[dH,er];exact cFB,?_,?_⟩
  ·unfold R.rA;rw[er];grind
  ·rw[dL,dH,er];have:=R.aE (cEA (R.dA (57-w))) (R.aM (R.qz x));grind
  ·rw[er];have:=(pJ hx.ne).1;have:=R.cF hx.t0;grind
 ·have sm:uC.aQQ x=false:=by rw[aEA,decide_eq_false c]
  obtain⟨e53,num⟩:=hx.bIS c;have hb:=hx.bl;have aFN:=hx.e1;obtain⟨sM,sK⟩:=cB.aEM (p:=x) (w:=bA.cW w) (by omega) (by omega) (by omega) (by unfold bA.cW;split <;> omega) (by unfold bA.cW;split <;> omega);have eW:bA.cW w=w+8:=by unfold bA.cW;split <;> omega
  have hM:bA.cM x w=cB.rM x (w+8):=by
   unfold bA.cM;rw[eW,show w+8-(w+8)=0 by omega];show cB.rM x (w+8)/((2^(0:Int).toNat:Nat):Int)=_;rw[show(2^(0:Int).toNat:Nat)=1 by rfl];omega
  have hQ:bA.cQ x w=cB.rK x (w+8)%4:=by unfold bA.cQ;rw[sm,eW];rfl
  have dL:bA.aAC x w=aN (cB.rM x (w+8)) (-(w+8)):=by unfold bA.aAC;rw[sm,hM];rfl
  have dH:bA.aAD x w=aN (cB.rM x (w+8)+4) (-(w+8)):=by unfold bA.aAD;rw[sm,hM];rfl
  rw[eW]at sM sK;have hT:cB.qA x=if 0>bB x+1 then 0 else bB x+1:=by
   unfold cB.qA bB;rw[show x.2+((M.bl x.1.natAbs:Nat):Int)-1+1=x.2+((M.bl x.1.natAbs:Nat):Int) by omega]
  have t1:=hx.t1;have T0:0<=cB.qA x/\bB x+1<=cB.qA x/\cB.qA x<=1024:=by rw[hT];split <;> omega
  have hG:cB.rG x (w+8)=w+8+cB.qA x+8:=rfl;obtain⟨g,hg⟩:=cDX (show 0<=cB.rG x (w+8) by omega);have hX:(cB.rX x (w+8):Rat)=2*(R.pz (cB.rG x (w+8))*R.qz x):=by
   unfold cB.rX uD.aNZ;rw[aW];obtain⟨n,hn⟩:=cDX (show 0<=x.2+cB.rG x (w+8) by omega);rw[hn,cCQ,cKB,cKB,cKC];have e1:((2^n:Nat):Rat)=R.pz x.2*R.pz (cB.rG x (w+8)):=by rw[<-R.iU,hn,R.lP]
   rw[e1];unfold R.qz;have:((2:Int):Rat)=2:=by norm_cast
   rw[this];grind
  obtain⟨f1,f2⟩:=R.Aq (q:=(cB.rG x (w+8)).toNat) (by omega);have f0:=(cB.Tw (g:=(cB.rG x (w+8)).toNat) (by omega)).2;have hF:R.pF (cB.rG x (w+8)).toNat=cB.rF x (w+8):=rfl;rw[hF]at f0 f1 f2;have eG:((2^(cB.rG x (w+8)).toNat:Nat):Rat)=R.pz (cB.rG x (w+8)):=by rw[hg,cCQ,R.lP]
  rw[eG]at f1 f2;obtain⟨n1,n2⟩:=aSR (X:=cB.rX x (w+8)) (f:=cB.rF x (w+8)) (by omega);have hK:cB.nK (cB.rX x (w+8)) (cB.rF x (w+8))=cB.rK x (w+8):=rfl;rw[hK]at n1 n2;have hR:(cB.rR x (w+8):Rat)=(cB.rX x (w+8):Rat)-(cB.rK x (w+8):Rat)*(cB.rF x (w+8):Rat):=by
   unfold cB.rR;rw[cMU,cKB,cKC]
  have hO:(cB.rO x (w+8):Rat)=R.ab (cB.rK x (w+8):Rat)+3:=by
   unfold cB.rO;rw[cLT,cKC,aGP];have:((3:Int):Rat)=3:=by norm_cast
   rw[this]
  have hS:cB.rG x (w+8)-(w+8)+1=cB.qA x+9:=by omega
  have bMV:cB.rM x (w+8)=(cB.rR x (w+8)-cB.rO x (w+8))/((2^(cB.qA x+9).toNat:Nat):Int):=by
   show(cB.rR x (w+8)-cB.rO x (w+8))/((2^(cB.rG x (w+8)-(w+8)+1).toNat:Nat):Int)=_;rw[hS]
  obtain⟨m1,m2⟩:=Oo (z:=cB.rR x (w+8)-cB.rO x (w+8)) (k:=(cB.qA x+9).toNat);rw[<-bMV,cMU]at m1 m2;obtain⟨s,hs⟩:=cDX (show 0<=cB.qA x+9 by omega);have eS:((2^(cB.qA x+9).toNat:Nat):Rat)=512*R.pz (cB.qA x):=by
   rw[hs,cCQ,<-R.lP,<-hs];have:=R.dZ (cB.qA x) 9;have n9:((2^9:Nat):Rat)=512:=by norm_cast
   rw[n9]at this;rw[show cB.qA x+9=cB.qA x+((9:Nat):Int) by rfl,this];grind
  rw[eS]at m1 m2;have bXX:R.pz (cB.rG x (w+8))=R.pz (w+8)*(256*R.pz (cB.qA x)):=by
   rw[hG,R.iU,R.iU];have:R.pz 8=256:=by rw[show(8:Int)=((8:Nat):Int) by rfl,R.lP];norm_cast
   rw[this];grind
  have P1:1<=R.pz (cB.qA x):=by rw[<-R.eB];exact R.cF (by omega)
  have aq:R.ab (R.qz x)<=R.pz (cB.qA x):=by
   have:=(pJ hx.ne).2;have:=R.cF T0.2.1;grind
  have W80:(4722366482869645213696:Rat)<=R.pz (w+8):=by
   have:=R.cF (show(72:Int)<=w+8 by omega);have e:R.pz 72=4722366482869645213696:=by rw[show(72:Int)=((72:Nat):Int) by rfl,R.lP];norm_cast
   rw[e]at this;grind
  rw[hR,hO,hX]at m1 m2;rw[hX]at n1 n2;have F0:(0:Rat)<=(cB.rF x (w+8):Rat):=by exact_mod_cast cEU _
  obtain⟨r1,r2,r3⟩:=aRW bXX P1 (by grind) aq F0 f1 f2 q1 q2 n1 n2 m1 m2;have Wi:=R.aAZ (w+8);have Wp:=R.dA (-(w+8));have v:=R.aXM num (cB.rK x (w+8));have i1:iF (cB.rM x (w+8)) (-(w+8))=true:=iD (by omega) (by omega);have s4:M.bl (cB.rM x (w+8)+4).natAbs<=80010:=by
   have:=bA.aGL sM (by decide);omega
  have i2:iF (cB.rM x (w+8)+4) (-(w+8))=true:=iD (by omega) (by omega);have vL:R.qz (bA.aAC x w)=(cB.rM x (w+8):Rat)*R.pz (-(w+8)):=by rw[dL,nY]
  have vH:R.qz (bA.aAD x w)=(cB.rM x (w+8):Rat)*R.pz (-(w+8))+4*R.pz (-(w+8)):=by
   rw[dH,nY,cLT];have:((4:Int):Rat)=4:=by norm_cast
   rw[this];grind
  have p63:R.pz (57-w)*(1/9223372036854775808)=4*R.pz (-(w+8)):=by
   have:=R.fU (57-w) (n:=65) (c:=36893488147419103232) (by norm_cast);rw[show 57-w-((65:Nat):Int)=-(w+8) by omega]at this;grind
  have mm:=R.aE (cEA (R.dA (57-w))) (show 0<=R.ab (R.qz x-(cB.rK x (w+8):Rat)*(R.pi/2))-1/9223372036854775808 by grind);have bDH:R.rA (R.qz x) (cB.rK x (w+8)):=by
   unfold R.rA;generalize R.ab (R.qz x-(cB.rK x (w+8):Rat)*(R.pi/2))=a at *;have u:=R.aE (cEA Wp) (show 0<=R.pz (w+8)*(R.pi/4)+1-R.pz (w+8)*a by grind);have u3:R.pz (-(w+8))*(R.pz (w+8)*a)=a:=by rw[<-cKA,cLP (R.pz (-(w+8))),Wi];grind
   have u4:R.pz (-(w+8))*(R.pz (w+8)*(R.pi/4))=R.pi/4:=by rw[<-cKA,cLP (R.pz (-(w+8))),Wi];grind
   have l65:R.pz (-(w+8))<=R.pz (-65):=R.cF (by omega);have bXZ:=R.fU 0 (n:=65) (c:=36893488147419103232) (by norm_cast);rw[R.eB,show(0:Int)-((65:Nat):Int)=-65 by rfl]at bXZ;grind
  obtain⟨r,hr⟩:∃r,r=R.qz x-(cB.rK x (w+8):Rat)*(R.pi/2):=⟨_,rfl⟩;rw[<-hr]at r1 r2 r3 v mm;have u1:=R.aE (cEA Wp) (show 0<=R.pz (w+8)*r-(cB.rM x (w+8):Rat) by grind);have u2:=R.aE (cEA Wp) (show 0<=(cB.rM x (w+8):Rat)+2-R.pz (w+8)*r by grind);have u3:R.pz (-(w+8))*(R.pz (w+8)*r)=r:=by rw[<-cKA,cLP (R.pz (-(w+8))),Wi];grind
  refine⟨cB.rK x (w+8),?_,hQ,by rw[dL];exact gZ i1 (by omega),by rw[dH];exact gZ i2 (by omega),?_,?_,?_,?_⟩
  ·exact bDH
  ·rw[vL,<-hr];grind
  ·rw[vH,<-hr];grind
  ·rw[vH,vL,<-hr];grind
  ·rw[<-hr];have p64:R.pz (-1074)<=R.pz (-63):=R.cF (by omega);have bNO:=R.fU 0 (n:=63) (c:=9223372036854775808) (by norm_cast);rw[R.eB,show(0:Int)-((63:Nat):Int)=-63 by rfl]at bNO;grind
end M
namespace AI
open Go Go.RowKit
def t2{β:Type}(x y:β):Nat->β
 |0=>x
 |_+1=>y
def t4{β:Type}(x y z u:β):Nat->β
 |0=>x
 |1=>y
 |2=>z
 |_+3=>u
def bOM{β:Type}(p:SPar β)(d:β):lB (β) where
 put x:=.rows p.n 1 fun _=>p.put x
 get
  | .rows sz n g=>if n=1/\sz=p.n then(p.get (g 0)).bind fun x=>some x else none
  |_=>none
 le:=by
  intro dd x h
  match dd,h with
  | .rows sz n g,h =>
   dsimp only at h;split at h
   ·rename_i hc;obtain⟨rfl,hc⟩:=hc;simp only[cBA]at h;obtain⟨y0,h0,h⟩:=h;cases h;have Bg:allB 1 (fun i=>(p.get (g i)).isSome)=true:=by simp[allB,h0]
    have e:=(pR p d).le (d:=.rows sz 1 g) (x:=(1,fun i=>(p.get (g i)).getD d)) (if_pos ⟨hc,Bg⟩);rintro Y w v hv;obtain⟨A,c,e1,e2,e3⟩:=e Y w v hv;refine⟨A,c,e1,e2,fun i hi=>?_⟩;have e4:=e3 i hi;obtain rfl:i=0:=by omega
    dsimp only at e4;rw[h0]at e4;exact e4
   ·cases h
def bHM{β:Type}(p:SPar β)(d:β):lB (β×β) where
 put x:=.rows p.n 2 fun i=>p.put (t2 x.1 x.2 i)
 get
  | .rows sz n g=>if n=2/\sz=p.n then(p.get (g 0)).bind fun x=>(p.get (g 1)).bind fun y=>some (x,y)else none
  |_=>none
 le:=by
  intro dd x h
  match dd,h with
  | .rows sz n g,h =>
   dsimp only at h;split at h
   ·rename_i hc;obtain⟨rfl,hc⟩:=hc;simp only[cBA]at h;obtain⟨y0,h0,y1,h1,h⟩:=h;cases h;have Bg:allB 2 (fun i=>(p.get (g i)).isSome)=true:=by simp[allB,h0,h1]
    have e:=(pR p d).le (d:=.rows sz 2 g) (x:=(2,fun i=>(p.get (g i)).getD d)) (if_pos ⟨hc,Bg⟩);rintro Y w v hv;obtain⟨A,c,e1,e2,e3⟩:=e Y w v hv;refine⟨A,c,e1,e2,fun i hi=>?_⟩;have e4:=e3 i hi;obtain rfl |rfl:i=0\/i=1:=by omega
    ·dsimp only at e4;rw[h0]at e4;exact e4
    ·dsimp only at e4;rw[h1]at e4;exact e4
   ·cases h
def aVL{β:Type}(p:SPar β)(d:β):lB (β×β×β×β) where
 put x:=.rows p.n 4 fun i=>p.put (t4 x.1 x.2.1 x.2.2.1 x.2.2.2 i)
 get
  | .rows sz n g=>if n=4/\sz=p.n then(p.get (g 0)).bind fun x=>(p.get (g 1)).bind fun y=>(p.get (g 2)).bind fun z=>(p.get (g 3)).bind fun u=>some (x,y,z,u)else none
  |_=>none
 le:=by
  intro dd x h
  match dd,h with
  | .rows sz n g,h =>
   dsimp only at h;split at h
   ·rename_i hc;obtain⟨rfl,hc⟩:=hc;simp only[cBA]at h;obtain⟨y0,h0,y1,h1,y2,h2,y3,h3,h⟩:=h;cases h;have Bg:allB 4 (fun i=>(p.get (g i)).isSome)=true:=by simp[allB,h0,h1,h2,h3]
    have e:=(pR p d).le (d:=.rows sz 4 g) (x:=(4,fun i=>(p.get (g i)).getD d)) (if_pos ⟨hc,Bg⟩);rintro Y w v hv;obtain⟨A,c,e1,e2,e3⟩:=e Y w v hv;refine⟨A,c,e1,e2,fun i hi=>?_⟩;have e4:=e3 i hi;obtain rfl |rfl |rfl |rfl:i=0\/i=1\/i=2\/i=3:=by omega
    ·dsimp only at e4;rw[h0]at e4;exact e4
    ·dsimp only at e4;rw[h1]at e4;exact e4
    ·dsimp only at e4;rw[h2]at e4;exact e4
    ·dsimp only at e4;rw[h3]at e4;exact e4
   ·cases h
end AI
namespace W
open Go AI M
namespace Bq
def E:=mE [] 9 [] [] []
def aF:=bd f161
theorem aX:Nk E aF:=nk
theorem start a:aI E f161 aF [D.s (sc (int i64 a))]=aB (decide (1<=a)) (some [D.s (sc (bool (decide (a<=70000))))]) (some [D.s (sc (bool false))]):=eJ aX
def sp(p:Int):Prop×List D:=(True,[.s (.sc (.bool (decide (1<=p)&&decide (p<=70000))))])
theorem spec:jL E f161 aF (pN .i64) sp:=by
 intro p h;refine(start p).trans ?_;unfold sp aB;cases (decide ((1:Int)<=p)) <;> rfl
def aJ:dK:=orc1 (pN .i64) sp
theorem ok:OK 161 aJ:=(fJ E aF aD func161).qB rfl spec
end Bq
namespace zI
def E:=mE [(161,Bq.aJ),(67,wF.aJ)] 20 [] [(4,[10,11,12])] []
def aF:=bd f117
theorem aX:Nk E aF:=nk
def L4(a:Nat)(b:Nat->Bool)(c:Nat->List Int)(d:Nat->Int)(e:Nat->Bool)(f:Nat->List Int)(g:Nat->Int) h j:=tM E f117 aF 4 [(A.v (V.one (L.rows 6 a fun i=>[sc (bool (b i)),ints u64 (c i),sc (int i64 (d i)),sc (bool (e i)),ints u64 (f i),sc (int i64 (g i))])),none),cA h,cA j]
theorem start p (a:yA) (b:yA):aI E f117 aF [D.s (sc (int i64 p)),D.rows 6 2 fun i=>[sc (bool (t2 a b i).fst),ints u64 (t2 a b i).snd.fst,sc (int i64 (t2 a b i).snd.snd.fst),sc (bool (t2 a b i).snd.snd.snd.fst),ints u64 (t2 a b i).snd.snd.snd.snd.fst,sc (int i64 (t2 a b i).snd.snd.snd.snd.snd)]]=aO True (aB (!(decide (1<=p)&&decide (p<=70000))) (some [D.s (sc (int i64 1))]) (zI.L4 2 (fun i=>(t2 a b i).fst) (fun i=>(t2 a b i).snd.fst) (fun i=>(t2 a b i).snd.snd.fst) (fun i=>(t2 a b i).snd.snd.snd.fst) (fun i=>(t2 a b i).snd.snd.snd.snd.fst) (fun i=>(t2 a b i).snd.snd.snd.snd.snd) 2 0)):=eJ aX
theorem wU a b c d e f g h j:L4 a b c d e f g h j=aB (decide (j<h)) (if 0<=j/\j<(a:Int)then aO (fA (b j.toNat,c j.toNat,d j.toNat,e j.toNat,f j.toNat,g j.toNat)) (zI.L4 a (fun i=>b i) (fun i=>c i) (fun i=>d i) (fun i=>e i) (fun i=>f i) (fun i=>g i) h (i64.wrap (j+1)))else none) (some [D.s (sc (int i64 0))]):=lJ aX
def sp(p:Int)(a:yA×yA):Prop×List D:=(fA a.1/\fA a.2,[.s (.sc (.int .i64 (if 1<=p/\p<=70000 then 0 else 1)))])
theorem L(n:Nat)(f:Nat->yA)(hn:n<=1000)(hf:∀i,i<n->fA (f i)):∀d k:Nat,k+d=n->L4 n (fun i=>(f i).1) (fun i=>(f i).2.1) (fun i=>(f i).2.2.1) (fun i=>(f i).2.2.2.1) (fun i=>(f i).2.2.2.2.1) (fun i=>(f i).2.2.2.2.2) (n:Int) (k:Int)=some [D.s (.sc (.int .i64 0))]
 |0,k,h=>by rw[wU,aL]
 |d+1,k,h=>by
  have e:i64.wrap ((k:Int)+1)=((k+1:Nat):Int):=by rw[wrap_i64];omega
  rw[wU,aQ,aW,cCQ,gP (hf k (by omega)),e];exact L n f hn hf d (k+1) (by omega)
theorem spec:hI E f117 aF (pN .i64) (bHM (.pair sB (.pair (sI .u64) (.pair (sN .i64) (.pair sB (.pair (sI .u64) (sN .i64)))))) (false,[],0,false,[],0)) sp:=by
 intro p a h;have hf:∀i,i<2->fA (t2 a.1 a.2 i):=fun i hi=>by
  obtain rfl |rfl:i=0\/i=1:=by omega
  ·exact h.1
  ·exact h.2
 refine(start p a.1 a.2).trans ((gP trivial).trans ?_);unfold sp
 by_cases hp:1<=p/\p<=70000
 ·rw[if_pos hp,decide_eq_true hp.1,decide_eq_true hp.2];exact L 2 (fun i=>t2 a.1 a.2 i) (by decide) hf 2 0 (by omega)
 ·rw[if_neg hp];have:(decide (1<=p)&&decide (p<=70000))=false:=by
   rw[cKM,decide_eq_false_iff_not,decide_eq_false_iff_not];omega
  rw[this];rfl
def aJ:dK:=orc2 (pN .i64) (bHM (.pair sB (.pair (sI .u64) (.pair (sN .i64) (.pair sB (.pair (sI .u64) (sN .i64)))))) (false,[],0,false,[],0)) sp
theorem ok:OK 117 aJ:=(fJ E aF (aA Bq.ok (aA wF.ok aD)) func117).nF rfl spec
end zI
namespace Pe
def E:=mE [(120,Iu.aJ)] 6 [5] [] []
def aF:=bd f165
theorem aX:Nk E aF:=nk
theorem start a b c:aI E f165 aF [D.agg [sc (bool a),ints u64 b,sc (int i64 c)]]=aO (aR (a,b,c)/\aR (false,[],(0:Int))) (some [D.s (sc (int i64 (eN (dv (a,b,c)) (dv (false,[],Int.ofNat (nat_lit 0))))))]):=eJ aX
def sp(x:gQ):Prop×List D:=(aR x,[.s (.sc (.int .i64 (eN (dv x) (0,0))))])
theorem bJO:aR (false,[],0):=⟨⟨M6.Le,fun h=>Bool.noConfusion h,by simp⟩,by constructor <;> decide,fun _=>rfl,fun h=>(h rfl).elim⟩
theorem spec:jL E f165 aF jO sp:=by
 intro x h;exact(start x.1 x.2.1 x.2.2).trans (gP ⟨h,bJO⟩)
def aJ:dK:=orc1 jO sp
theorem ok:OK 165 aJ:=(fJ E aF (aA Iu.ok aD) func165).qB rfl spec
end Pe
namespace fZ
def E:=mE [(67,wF.aJ),(165,Pe.aJ)] 18 [] [] []
def aF:=bd f159
theorem aX:Nk E aF:=nk
theorem start a b c d e f:aI E f159 aF [D.agg [sc (bool a),ints u64 b,sc (int i64 c),sc (bool d),ints u64 e,sc (int i64 f)]]=letI A:=sc (int i64 0);aO (fA (a,b,c,d,e,f)) (aO (aR (d,e,f)) (aB (decide (eN (dv (d,e,f)) ((0:Int),(0:Int))<0)) (some [D.s (sc (int i64 (-1:Int))),D.s A]) (aO (aR (a,b,c)) (aB (decide (0<eN (dv (a,b,c)) ((0:Int),(0:Int)))) (some [D.s (sc (int i64 1)),D.s A]) (some [D.s A,D.s A]))))):=eJ aX
def tI(a b:Int×Int):Int:=if eN b (0,0)<0 then -1 else if 0<eN a (0,0)then 1 else 0
def sp(s:yA):Prop×List D:=(fA s,[.s (.sc (.int .i64 (tI (dv (iH s)) (dv (iI s))))),.s (.sc (.int .i64 0))])
theorem spec:jL E f159 aF zQ sp:=by
 intro s h;have h:fA s:=h;have hL:aR (s.1,s.2.1,s.2.2.1):=h.1;have hH:aR (s.2.2.2.1,s.2.2.2.2.1,s.2.2.2.2.2):=h.2.1;refine(start s.1 s.2.1 s.2.2.1 s.2.2.2.1 s.2.2.2.2.1 s.2.2.2.2.2).trans ?_;unfold sp tI
 try dsimp only
 rw[gP h,gP hH];show aB (decide (eN (dv (iI s)) (0,0)<0)) _ _=_
 by_cases c1:eN (dv (iI s)) (0,0)<0
 ·rw[aQ c1,if_pos c1]
 ·rw[aL c1,if_neg c1,gP hL];show aB (decide (0<eN (dv (iH s)) (0,0))) _ _=_
  by_cases c2:0<eN (dv (iH s)) (0,0)
  ·rw[aQ c2,if_pos c2]
  ·rw[aL c2,if_neg c2]
def aJ:dK:=orc1 zQ sp
theorem ok:OK 159 aJ:=(fJ E aF (aA wF.ok (aA Pe.ok aD)) func159).qB rfl spec
end fZ
namespace Pn
def E:=mE [(210,cP.aJ)] 14 [11] [] []
def aF:=bd f166
theorem aX:Nk E aF:=nk
theorem start a b d e f g c:aI E f166 aF [D.agg [sc (bool a),ints u64 b,sc (int i64 d)],D.agg [sc (bool e),ints u64 f,sc (int i64 g)],D.s (sc (int i64 c))]=letI A:=cP.vK false c (dv (a,b,d)) (dv (e,f,g));letI B:=bif iF A.fst A.snd then aN A.fst A.snd else((0:Int),(0:Int));aO (aR (a,b,d)/\aR (e,f,g)/\(dv (e,f,g)).fst≠0/\b.length<=4096/\f.length<=4096/\1<=c/\c<=70000) (some [D.agg [sc (bool (isNeg B.fst)),ints u64 (M6.dg B.fst.natAbs),sc (int i64 B.snd)],D.s (sc (int i64 (bif iF A.fst A.snd then(0:Int)else(5:Int))))]):=eJ aX
def sp(x y:gQ)(p:Int):Prop×List D:=(aR x/\aR y/\(dv y).1≠0/\x.2.1.length<=4096/\y.2.1.length<=4096/\1<=p/\p<=70000,dE (iF (cP.vK false p (dv x) (dv y)).1 (cP.vK false p (dv x) (dv y)).2) (aN (cP.vK false p (dv x) (dv y)).1 (cP.vK false p (dv x) (dv y)).2))
theorem spec:pO E f166 aF jO jO (pN .i64) sp:=by
 intro x y p h;refine(start x.1 x.2.1 x.2.2 y.1 y.2.1 y.2.2 p).trans ((gP h).trans ?_);rfl
def aJ:dK:=orc3 jO jO (pN .i64) sp
theorem ok:OK 166 aJ:=(fJ E aF (aA cP.ok aD) func166).zR rfl spec
end Pn
namespace aDE
def E:=mE [(210,cP.aJ)] 14 [11] [] []
def aF:=bd f167
theorem aX:Nk E aF:=nk
theorem start a b d e f g c:aI E f167 aF [D.agg [sc (bool a),ints u64 b,sc (int i64 d)],D.agg [sc (bool e),ints u64 f,sc (int i64 g)],D.s (sc (int i64 c))]=letI A:=cP.vK true c (dv (a,b,d)) (dv (e,f,g));letI B:=bif iF A.fst A.snd then aN A.fst A.snd else((0:Int),(0:Int));aO (aR (a,b,d)/\aR (e,f,g)/\(dv (e,f,g)).fst≠0/\b.length<=4096/\f.length<=4096/\1<=c/\c<=70000) (some [D.agg [sc (bool (isNeg B.fst)),ints u64 (M6.dg B.fst.natAbs),sc (int i64 B.snd)],D.s (sc (int i64 (bif iF A.fst A.snd then(0:Int)else(5:Int))))]):=eJ aX
def sp(x y:gQ)(p:Int):Prop×List D:=(aR x/\aR y/\(dv y).1≠0/\x.2.1.length<=4096/\y.2.1.length<=4096/\1<=p/\p<=70000,dE (iF (cP.vK true p (dv x) (dv y)).1 (cP.vK true p (dv x) (dv y)).2) (aN (cP.vK true p (dv x) (dv y)).1 (cP.vK true p (dv x) (dv y)).2))
theorem spec:pO E f167 aF jO jO (pN .i64) sp:=by
 intro x y p h;refine(start x.1 x.2.1 x.2.2 y.1 y.2.1 y.2.2 p).trans ((gP h).trans ?_);rfl
def aJ:dK:=orc3 jO jO (pN .i64) sp
theorem ok:OK 167 aJ:=(fJ E aF (aA cP.ok aD) func167).zR rfl spec
end aDE
namespace Zq
def E:=mE [] 23 [] [] []
def aF:=bd f164
theorem aX:Nk E aF:=nk
theorem start a c e b f g h d:aI E f164 aF [D.agg [sc (bool a),ints u64 c,sc (int i64 e)],D.s (sc (int i64 b)),D.agg [sc (bool f),ints u64 g,sc (int i64 h)],D.s (sc (int i64 d))]=letI B:=int i64 0;letI A:=some [D.agg [sc (bool false),sc (slice none 0 0),sc B,sc (bool false),sc (slice none 0 0),sc B],D.s (sc (int i64 (if d>b then d else b)))];aB (b !=0) A (aB (d !=0) A (some [D.agg [sc (bool a),ints u64 c,sc (int i64 e),sc (bool f),ints u64 g,sc (int i64 h)],D.s (sc B)])):=eJ aX
def sp(x:gQ)(e:Int)(y:gQ)(f:Int):Prop×List D:=(e=0/\f=0,[.agg [.sc (.bool x.1),.ints .u64 x.2.1,.sc (.int .i64 x.2.2),.sc (.bool y.1),.ints .u64 y.2.1,.sc (.int .i64 y.2.2)],.s (.sc (.int .i64 0))])
theorem spec:Pd E f164 aF jO (pN .i64) jO (pN .i64) sp:=by
 rintro x e y f ⟨rfl,rfl⟩;exact start x.1 x.2.1 x.2.2 0 y.1 y.2.1 y.2.2 0
def aJ:dK:=orc4 jO (pN .i64) jO (pN .i64) sp
theorem ok:OK 164 aJ:=(fJ E aF aD func164).aME rfl spec
end Zq
namespace jH
def E:=mE [(117,zI.aJ),(159,fZ.aJ),(20,kW.aJ),(165,Pe.aJ),(166,Pn.aJ),(167,aDE.aJ),(164,Zq.aJ)] 86 [21,83] [(11,[2,3,4,6]),(14,[2,3,4,6,11,12]),(16,[2,3,6,11,12])] [11,14,16]
def aF:=bd f119
theorem aX:Nk E aF:=nk
def bIW a b c d e f g h i j k l m n o p q:=mU E f119 aF 11 [cA a,dR 1 44 [cX b,gJ c,dC d,cX e,gJ f,dC g],dR 2 44 [cX h,gJ i,dC j,cX k,gJ l,dC m],dR 3 44 [cX n,sc (slice none 0 0),dC o,cX p,sc (slice none 0 0),dC q]]
def aKC a b c d e f g h i j k l m n o p q r s t u v w:=mU E f119 aF 14 [cA a,dR 1 44 [cX b,gJ c,dC d,cX e,gJ f,dC g],dR 2 44 [cX h,gJ i,dC j,cX k,gJ l,dC m],dR 3 44 [cX n,sc (slice none 0 0),dC o,cX p,sc (slice none 0 0),dC q],dR 4 29 [cX r,gJ s,dC t],dR 5 29 [cX u,gJ v,dC w]]
def aUT a b c d e f g h i j k l m n o p q:=mU E f119 aF 16 [cA a,dR 1 44 [cX b,gJ c,dC d,cX e,gJ f,dC g],dR 2 44 [cX h,sc (slice none 0 0),dC i,cX j,sc (slice none 0 0),dC k],dR 3 29 [cX l,gJ m,dC n],dR 4 29 [cX o,gJ p,dC q]]
theorem start a b d e f g h i j k l m c:aI E f119 aF [D.agg [sc (bool a),ints u64 b,sc (int i64 d),sc (bool e),ints u64 f,sc (int i64 g)],D.agg [sc (bool h),ints u64 i,sc (int i64 j),sc (bool k),ints u64 l,sc (int i64 m)],D.s (sc (int i64 c))]=letI I:=int i64 0;letI F:=bool false;letI C:=slice none 0 0;letI B:=(a,b,d,e,f,g);letI N:=dv (iH B);letI K:=dv (iI B);letI A:=(h,i,j,k,l,m);letI H:=dv (iI A);letI G:=dv (iH A);aO (fA B/\fA A) (aC (if 1<=c/\c<=70000 then(0:Int)else(1:Int)) fun n=>aB (n !=0) (some [D.agg [sc F,sc C,sc I,sc F,sc C,sc I],D.s (sc (int i64 n))]) (aO (fA A) (aC (fZ.tI G H) fun o=>aB (o==0) (some [D.agg [sc F,sc C,sc I,sc F,sc C,sc I],D.s (sc (int i64 4))]) (aB (o==(-1:Int)) (aO (fA B) (aC (isNeg (-K.fst)) fun p=>aC (M6.dg (-K.fst).natAbs) fun q=>aC K.snd fun r=>aC (isNeg (-N.fst)) fun s=>aC (M6.dg (-N.fst).natAbs) fun t=>aC N.snd fun u=>aO (fA A) (aC (isNeg (-H.fst)) fun v=>aC (M6.dg (-H.fst).natAbs) fun w=>aC H.snd fun x=>aC (isNeg (-G.fst)) fun y=>aC (M6.dg (-G.fst).natAbs) fun z=>aC G.snd fun aa=>jH.bIW c p q r s t u v w x y z aa false 0 false 0))) (jH.bIW c a b d e f g h i j k l m false 0 false 0))))):=eJ aX
theorem bBA a b c d e f g h i j k l m n o p q:bIW a b c d e f g h i j k l m n o p q=aO (aR (b,c,d)) (aC (eN (dv (b,c,d)) ((0:Int),(0:Int))) fun r=>aB (decide (r<0)) (jH.aKC a b c d e f g h i j k l m n o p q h i j h i j) (jH.aKC a b c d e f g h i j k l m n o p q k l m h i j)):=cJ aX
theorem Iy a b c d e f g h i j k l m n o p q r s t u v w:aKC a b c d e f g h i j k l m n o p q r s t u v w=aO (aR (e,f,g)) (aC (eN (dv (e,f,g)) ((0:Int),(0:Int))) fun x=>aB (decide (x<0)) (jH.aUT a b c d e f g n o p q r s t k l m) (jH.aUT a b c d e f g n o p q r s t u v w)):=cJ aX
theorem aDB a b c d e f g h i j k l m n o p q:aUT a b c d e f g h i j k l m n o p q=letI B:=cP.vK true a (dv (e,f,g)) (dv (o,p,q));letI F:=bif iF B.fst B.snd then aN B.fst B.snd else((0:Int),(0:Int));letI A:=cP.vK false a (dv (b,c,d)) (dv (l,m,n));letI C:=bif iF A.fst A.snd then aN A.fst A.snd else((0:Int),(0:Int));aO (aR (b,c,d)/\aR (l,m,n)/\(dv (l,m,n)).fst≠0/\c.length<=4096/\m.length<=4096/\1<=a/\a<=70000) (aC (isNeg C.fst) fun r=>aC (M6.dg C.fst.natAbs) fun s=>aC C.snd fun t=>aC (bif iF A.fst A.snd then(0:Int)else(5:Int)) fun u=>aO (aR (e,f,g)/\aR (o,p,q)/\(dv (o,p,q)).fst≠0/\f.length<=4096/\p.length<=4096/\1<=a/\a<=70000) (aC (isNeg F.fst) fun v=>aC (M6.dg F.fst.natAbs) fun w=>aC F.snd fun x=>aC (bif iF B.fst B.snd then(0:Int)else(5:Int)) fun y=>aO (u=0/\y=0) (some [D.agg [sc (bool r),ints u64 s,sc (int i64 t),sc (bool v),ints u64 w,sc (int i64 x)],D.s (sc (int i64 0))]))):=cJ aX
def aJJ(p:Int)(a u v:Int×Int):Int×Int:=cP.vK false p a (bif decide (eN a (0,0)<0)then u else v)
def aJK(p:Int)(a u v:Int×Int):Int×Int:=cP.vK true p a (bif decide (eN a (0,0)<0)then v else u)
def Mq(p:Int)(a b u v:Int×Int):Int×Int:=bif fZ.tI u v==-1 then aJJ p (kW.xK b) (kW.xK v) (kW.xK u)else aJJ p a u v
def Mr(p:Int)(a b u v:Int×Int):Int×Int:=bif fZ.tI u v==-1 then aJK p (kW.xK a) (kW.xK v) (kW.xK u)else aJK p b u v
def sp(s t:yA)(p:Int):Prop×List D:=(fA s/\fA t/\(1<=p/\p<=70000)/\fZ.tI (dv (iH t)) (dv (iI t))≠0 /\
 (bl (dv (iH s)).1.natAbs<=262144/\bl (dv (iI s)).1.natAbs<=262144/\bl (dv (iH t)).1.natAbs<=262144/\bl (dv (iI t)).1.natAbs<=262144) /\
 iF (Mq p (dv (iH s)) (dv (iI s)) (dv (iH t)) (dv (iI t))).1 (Mq p (dv (iH s)) (dv (iI s)) (dv (iH t)) (dv (iI t))).2=true/\iF (Mr p (dv (iH s)) (dv (iI s)) (dv (iH t)) (dv (iI t))).1 (Mr p (dv (iH s)) (dv (iI s)) (dv (iH t)) (dv (iI t))).2=true,
 [wG (aN (Mq p (dv (iH s)) (dv (iI s)) (dv (iH t)) (dv (iI t))).1 (Mq p (dv (iH s)) (dv (iI s)) (dv (iH t)) (dv (iI t))).2) (aN (Mr p (dv (iH s)) (dv (iI s)) (dv (iH t)) (dv (iI t))).1 (Mr p (dv (iH s)) (dv (iI s)) (dv (iH t)) (dv (iI t))).2),.s (.sc (.int .i64 0))])
theorem J{p:Int}(hp:1<=p/\p<=70000){x y u v:gQ}(hx:aR x)(hy:aR y)(hu:aR u)(hv:aR v)(u0:(dv u).1≠0)(v0:(dv v).1≠0)(lx:x.2.1.length<=4096)(ly:y.2.1.length<=4096)(lu:u.2.1.length<=4096)(lv:v.2.1.length<=4096)
  (i1:iF (aJJ p (dv x) (dv u) (dv v)).1 (aJJ p (dv x) (dv u) (dv v)).2=true) (i2:iF (aJK p (dv y) (dv u) (dv v)).1 (aJK p (dv y) (dv u) (dv v)).2=true) :
  bIW p x.1 x.2.1 x.2.2 y.1 y.2.1 y.2.2 u.1 u.2.1 u.2.2 v.1 v.2.1 v.2.2 false 0 false 0=some [wG (aN (aJJ p (dv x) (dv u) (dv v)).1 (aJJ p (dv x) (dv u) (dv v)).2) (aN (aJK p (dv y) (dv u) (dv v)).1 (aJK p (dv y) (dv u) (dv v)).2),.s (.sc (.int .i64 0))]:=by
 have fin:∀m n:gQ,aR m->aR n->(dv m).1≠0->(dv n).1≠0->m.2.1.length<=4096->n.2.1.length<=4096->iF (cP.vK false p (dv x) (dv m)).1 (cP.vK false p (dv x) (dv m)).2=true->iF (cP.vK true p (dv y) (dv n)).1 (cP.vK true p (dv y) (dv n)).2=true ->
   aUT p x.1 x.2.1 x.2.2 y.1 y.2.1 y.2.2 false 0 false 0 m.1 m.2.1 m.2.2 n.1 n.2.1 n.2.2=some [wG (aN (cP.vK false p (dv x) (dv m)).1 (cP.vK false p (dv x) (dv m)).2) (aN (cP.vK true p (dv y) (dv n)).1 (cP.vK true p (dv y) (dv n)).2),.s (.sc (.int .i64 0))]:=by
  intro m n hm hn m0 n0 lm ln j1 j2;have x1:(x.1,x.2.1,x.2.2)=x:=rfl;have x2:(y.1,y.2.1,y.2.2)=y:=rfl;have x3:(m.1,m.2.1,m.2.2)=m:=rfl;have x4:(n.1,n.2.1,n.2.2)=n:=rfl;rw[aDB];simp only[aH,x1,x2,x3,x4,j1,j2,cond_true];rw[gP ⟨hx,hm,m0,lx,lm,hp.1,hp.2⟩,gP ⟨hy,hn,n0,ly,ln,hp.1,hp.2⟩,gP ⟨trivial,trivial⟩];rfl
 unfold aJJ aJK at *;rw[bBA,gP hx,aH]
 by_cases c1:eN (dv x) (0,0)<0
 ·rw[show dv (x.1,x.2.1,x.2.2)=dv x from rfl,aQ c1,Iy,gP hy,aH,show dv (y.1,y.2.1,y.2.2)=dv y from rfl];rw[decide_eq_true c1,cond_true]at i1 ⊢
  by_cases c2:eN (dv y) (0,0)<0
  ·rw[aQ c2];rw[decide_eq_true c2,cond_true]at i2 ⊢;exact fin u v hu hv u0 v0 lu lv i1 i2
  ·rw[aL c2];rw[decide_eq_false c2,cond_false]at i2 ⊢;exact fin u u hu hu u0 u0 lu lu i1 i2
 ·rw[show dv (x.1,x.2.1,x.2.2)=dv x from rfl,aL c1,Iy,gP hy,aH,show dv (y.1,y.2.1,y.2.2)=dv y from rfl];rw[decide_eq_false c1,cond_false]at i1 ⊢
  by_cases c2:eN (dv y) (0,0)<0
  ·rw[aQ c2];rw[decide_eq_true c2,cond_true]at i2 ⊢;exact fin v v hv hv v0 v0 lv lv i1 i2
  ·rw[aL c2];rw[decide_eq_false c2,cond_false]at i2 ⊢;exact fin v u hv hu v0 u0 lv lu i1 i2
theorem cell{q:Int×Int}(h:kE q)(hb:bl q.1.natAbs<=262144):(isNeg q.1,M6.dg q.1.natAbs,q.2).2.1.length<=4096:=by
 have:=dP h;refine this.Hw ?_;rw[dX];exact hb
theorem spec:pO E f119 aF zQ zQ (pN .i64) sp:=by
 rintro s t p ⟨h1,h2,hp,hs,⟨l1,l2,l3,l4⟩,i1,i2⟩;refine(start s.1 s.2.1 s.2.2.1 s.2.2.2.1 s.2.2.2.2.1 s.2.2.2.2.2 t.1 t.2.1 t.2.2.1 t.2.2.2.1 t.2.2.2.2.1 t.2.2.2.2.2 p).trans ?_;rw[gP ⟨h1,h2⟩,aH,if_pos hp,gF rfl,gP h2,aH];unfold sp;have n1:(dv (iH t)).1≠0:=fun hz=>by
  have:=Gc.1 (Ci hz);have o:=lN.1 h2.2.2;unfold fZ.tI at hs
  by_cases g:eN (dv (iI t)) (0,0)<0
  ·have:=Cz.1 g;grind
  ·rw[if_neg g,if_neg (by rw[Ci hz];omega)]at hs;exact hs rfl
 have n2:(dv (iI t)).1≠0:=fun hz=>by
  have:=Gc.1 (Ci hz);have o:=lN.1 h2.2.2;unfold fZ.tI at hs;rw[if_neg (by rw[Ci hz];omega)]at hs
  by_cases g:0<eN (dv (iH t)) (0,0)
  ·have:=yY.1 g;grind
  ·rw[if_neg g]at hs;exact hs rfl
 show aB (fZ.tI (dv (iH t)) (dv (iI t))==0) _ _=_;rw[bJ hs];have p1:=h1.1.wL;have p2:=h1.2.1.wL;have p3:=h2.1.wL;have p4:=h2.2.1.wL;unfold Mq Mr at *
 by_cases c:fZ.tI (dv (iH t)) (dv (iI t))=-1
 ·rw[show(fZ.tI (dv (iH t)) (dv (iI t))==-1)=true from beq_iff_eq.2 c,cond_true]at i1 i2;show aB (fZ.tI (dv (iH t)) (dv (iI t))==-1) _ _=_;rw[cD c,gP h1];simp only[aH];rw[gP h2];rw[show(fZ.tI (dv (iH t)) (dv (iI t))==-1)=true from beq_iff_eq.2 c,cond_true,cond_true];have e:=J hp (dP p2.Hr) (dP p1.Hr) (dP p4.Hr) (dP p3.Hr);rw[dX,dX,dX,dX]at e;dsimp only at e;exact e (by omega) (by omega) (cell p2.Hr (by dsimp only;rw[cFE];exact l2)) (cell p1.Hr (by dsimp only;rw[cFE];exact l1)) (cell p4.Hr (by dsimp only;rw[cFE];exact l4)) (cell p3.Hr (by dsimp only;rw[cFE];exact l3)) i1 i2
 ·rw[show(fZ.tI (dv (iH t)) (dv (iI t))==-1)=false from beq_eq_false_iff_ne.2 c,cond_false]at i1 i2;show aB (fZ.tI (dv (iH t)) (dv (iI t))==-1) _ _=_;rw[bJ c];rw[show(fZ.tI (dv (iH t)) (dv (iI t))==-1)=false from beq_eq_false_iff_ne.2 c,cond_false,cond_false];exact J hp h1.1 h1.2.1 h2.1 h2.2.1 n1 n2 (h1.1.Hw l1) (h1.2.1.Hw l2) (h2.1.Hw l3) (h2.2.1.Hw l4) i1 i2
def aJ:dK:=orc3 zQ zQ (pN .i64) sp
theorem ok:OK 119 aJ:=(fJ E aF (aA zI.ok (aA fZ.ok (aA kW.ok (aA Pe.ok (aA Pn.ok (aA aDE.ok (aA Zq.ok aD))))))) func119).zR rfl spec
end jH
namespace VTurned
def E:=mE [(20,kW.aJ)] 29 [16] [(2,[3,4,6,7,11,12])] []
def aF:=bd f212
theorem aX:Nk E aF:=nk
def L2 a b c d e f g h i j k l m n o p q r s t u v:=tM E f212 aF 2 [dR 0 44 [cX a,gJ b,dC c,cX d,gJ e,dC f],dR 1 44 [cX g,gJ h,dC i,cX j,gJ k,dC l],dR 2 44 [cX m,sc (slice none 0 0),dC n,cX o,sc (slice none 0 0),dC p],dR 3 44 [cX q,sc (slice none 0 0),dC r,cX s,sc (slice none 0 0),dC t],cA u,cA v]
theorem start a b d e f g h i j k l m c:aI E f212 aF [D.agg [sc (bool a),ints u64 b,sc (int i64 d),sc (bool e),ints u64 f,sc (int i64 g)],D.agg [sc (bool h),ints u64 i,sc (int i64 j),sc (bool k),ints u64 l,sc (int i64 m)],D.s (sc (int i64 c))]=VTurned.L2 a b d e f g h i j k l m false 0 false 0 false 0 false 0 c 0:=eJ aX
theorem mK a b c d e f g h i j k l m n o p q r s t u v:L2 a b c d e f g h i j k l m n o p q r s t u v=letI A:=(a,b,c,d,e,f);letI C:=dv (iH A);letI B:=dv (iI A);aB (decide (v<u)) (aO (fA A) (aC (isNeg (-B.fst)) fun w=>aC (M6.dg (-B.fst).natAbs) fun x=>aC B.snd fun y=>aC (isNeg (-C.fst)) fun z=>aC (M6.dg (-C.fst).natAbs) fun aa=>aC C.snd fun ab=>VTurned.L2 g h i j k l w x y z aa ab m n o p q r s t u (i64.wrap (v+1)))) (some [D.agg [sc (bool a),ints u64 b,sc (int i64 c),sc (bool d),ints u64 e,sc (int i64 f)],D.agg [sc (bool g),ints u64 h,sc (int i64 i),sc (bool j),ints u64 k,sc (int i64 l)],D.s (sc (int i64 0))]):=lJ aX
def trn(s c:(Int×Int)×(Int×Int)):Nat->((Int×Int)×(Int×Int))×((Int×Int)×(Int×Int))
 |0=>(s,c)
 |n+1=>trn c (kW.xK s.2,kW.xK s.1) n
def sp(s c:yA)(q:Int):Prop×List D:=(fA s/\fA c/\0<=q/\q<=3,[wG (trn (dv (iH s),dv (iI s)) (dv (iH c),dv (iI c)) q.toNat).1.1 (trn (dv (iH s),dv (iI s)) (dv (iH c),dv (iI c)) q.toNat).1.2,wG (trn (dv (iH s),dv (iI s)) (dv (iH c),dv (iI c)) q.toNat).2.1 (trn (dv (iH s),dv (iI s)) (dv (iH c),dv (iI c)) q.toNat).2.2,.s (.sc (.int .i64 0))])
theorem aMJ{s:yA}(h:fA s):fA (nM (kW.xK (dv (iI s))) (kW.xK (dv (iH s)))):=by
 refine yH h.2.1.wL.Hr h.1.wL.Hr ?_;have:=lN.1 h.2.2;refine lN.2 ?_;unfold kW.xK;rw[oQ,oQ];grind
theorem L:∀(d k:Nat) (s c:yA),k+d<=1000->fA s->fA c->L2 s.1 s.2.1 s.2.2.1 s.2.2.2.1 s.2.2.2.2.1 s.2.2.2.2.2 c.1 c.2.1 c.2.2.1 c.2.2.2.1 c.2.2.2.2.1 c.2.2.2.2.2 false 0 false 0 false 0 false 0 ((k+d:Nat):Int) (k:Int)=some [wG (trn (dv (iH s),dv (iI s)) (dv (iH c),dv (iI c)) d).1.1 (trn (dv (iH s),dv (iI s)) (dv (iH c),dv (iI c)) d).1.2,wG (trn (dv (iH s),dv (iI s)) (dv (iH c),dv (iI c)) d).2.1 (trn (dv (iH s),dv (iI s)) (dv (iH c),dv (iI c)) d).2.2,.s (.sc (.int .i64 0))]
 |0,k,s,c,h,h1,h2=>by
  rw[mK,aL];unfold trn;dsimp only;rw[h1.wG,h2.wG]
 |d+1,k,s,c,h,h1,h2=>by
  have e:i64.wrap ((k:Int)+1)=((k+1:Nat):Int):=by rw[wrap_i64];omega
  rw[mK,aQ,gP h1];simp only[aH,e];have r:=L d (k+1) c (nM (kW.xK (dv (iI s))) (kW.xK (dv (iH s)))) (by omega) h2 (aMJ h1);rw[pQ,pS,show k+1+d=k+(d+1) by omega]at r;exact r
theorem spec:pO E f212 aF zQ zQ (pN .i64) sp:=by
 rintro s c q ⟨h1,h2,q0,q1⟩;refine(start s.1 s.2.1 s.2.2.1 s.2.2.2.1 s.2.2.2.2.1 s.2.2.2.2.2 c.1 c.2.1 c.2.2.1 c.2.2.2.1 c.2.2.2.2.1 c.2.2.2.2.2 q).trans ?_;obtain⟨n,rfl⟩:=cDX q0;have:=L n 0 s c (by omega) h1 h2;rw[bYV]at this;exact this
def aJ:dK:=orc3 zQ zQ (pN .i64) sp
theorem ok:OK 212 aJ:=(fJ E aF (aA kW.ok aD) func212).zR rfl spec
end VTurned
end W
namespace M
open Go AI W
structure Bx(s:(Int×Int)×(Int×Int))(V W m:Rat):Prop where
 pl:kE s.1
 ph:kE s.2
 bl:bl s.1.1.natAbs<=100000
 bh:M.bl s.2.1.natAbs<=100000
 m0:0<=m
 lo:R.qz s.1+m<=V
 hi:V+m<=R.qz s.2
 wd:R.qz s.2-R.qz s.1<=W
theorem Bx.neg{s:(Int×Int)×(Int×Int)}{V W m:Rat}(h:Bx s V W m):Bx (kW.xK s.2,kW.xK s.1) (-V) W m:=by
 obtain⟨h1,h2,h3,h4,h5,h6,h7,h8⟩:=h;refine⟨h2.Hr,h1.Hr,?_,?_,h5,?_,?_,?_⟩
 ·show M.bl (-s.2.1).natAbs<=_;rw[cFE];exact h4
 ·show M.bl (-s.1.1).natAbs<=_;rw[cFE];exact h3
 ·show R.qz (-s.2.1,s.2.2)+m<=_;rw[oQ];grind
 ·show _<=R.qz (-s.1.1,s.1.2);rw[oQ];grind
 ·show R.qz (-s.1.1,s.1.2)-R.qz (-s.2.1,s.2.2)<=_;rw[oQ,oQ];grind
theorem Bx.Al{s:(Int×Int)×(Int×Int)}{V W m:Rat}(h:Bx s V W m):fA (nM s.1 s.2):=yH h.pl h.ph (lN.2 (by have:=h.lo;have:=h.hi;have:=h.m0;grind))
theorem Bx.trn{s c:(Int×Int)×(Int×Int)}{S C Ws Wc m:Rat}(hs:Bx s S Ws m)(hc:Bx c C Wc m){k:Int} :
  Bx (VTurned.trn s c (k%4).toNat).1 (R.rs k S C) (if k%2=0 then Ws else Wc) m/\Bx (VTurned.trn s c (k%4).toNat).2 (R.rc k S C) (if k%2=0 then Wc else Ws) m:=by
 have h4:k%4=0\/k%4=1\/k%4=2\/k%4=3:=by omega
 unfold R.rs R.rc;rcases h4 with h |h |h |h
 ·have h2:k%2=0:=by omega
  simp[h,h2];exact⟨hs,hc⟩
 ·have h2:k%2=1:=by omega
  simp[h,h2];exact⟨hc,hs.neg⟩
 ·have h2:k%2=0:=by omega
  simp[h,h2];exact⟨hs.neg,hc.neg⟩
 ·have h2:k%2=1:=by omega
  simp[h,h2];have e:s=(kW.xK (kW.xK s.1),kW.xK (kW.xK s.2)):=by
   obtain⟨⟨a,b⟩,c,d⟩:=s;unfold kW.xK;dsimp only;rw[Int.neg_neg,Int.neg_neg]
  refine⟨hc.neg,?_⟩;have:=hs;rw[e]at this;exact this
theorem aUF(up:Bool){z:Int}{v:Rat}{k:Nat}(hk:1<=k)(h:(z:Rat)=v\/(z%2=1/\(z:Rat)-1<v/\v<(z:Rat)+1)) :
  (up=false->(kZ.qI up z k:Rat)*((2^k:Nat):Rat)<=v/\v<=(kZ.qI up z k:Rat)*((2^k:Nat):Rat)+((2^k:Nat):Rat))/\(up=true->v<=(kZ.qI up z k:Rat)*((2^k:Nat):Rat)/\(kZ.qI up z k:Rat)*((2^k:Nat):Rat)<=v+((2^k:Nat):Rat)):=by
 obtain⟨c1,c2⟩:=aGB up z k;have K0:(0:Rat)<((2^k:Nat):Rat):=by exact_mod_cast cBT (by decide)
 rcases h with h |⟨ho,h1,h2⟩
 ·rw[<-h];exact⟨fun hu=>⟨(c1 hu).1,cEA (c1 hu).2⟩,fun hu=>⟨(c2 hu).1,cEA (c2 hu).2⟩⟩
 ·
  have ev:(2:Int)∣((2^k:Nat):Int):=by
   obtain⟨j,rfl⟩:∃j,k=j+1:=⟨k-1,by omega⟩;rw[cDS];exact⟨((2^j:Nat):Int),by push_cast;omega⟩
  have fl:∀w:Int,w%2=1->w/((2^k:Nat):Int)*((2^k:Nat):Int)+1<=w/\w+1<=w/((2^k:Nat):Int)*((2^k:Nat):Int)+((2^k:Nat):Int):=by
   intro w hw;have e:=cHO w ((2^k:Nat):Int);have hp:(0:Int)<((2^k:Nat):Int):=by have:=cBT (n:=k) (show 0<2 by decide);omega
   have m0:=cHP w (show((2^k:Nat):Int)≠0 by omega);have m1:=cHQ w hp;have m2:w%((2^k:Nat):Int)%2=1:=by rw[Int.emod_emod_of_dvd w ev];exact hw
   rw[cGL]at e;generalize w/((2^k:Nat):Int)*((2^k:Nat):Int)=P at *;omega
  constructor
  ·rintro rfl;unfold kZ.qI;rw[cond_false];obtain⟨f1,f2⟩:=fl z ho;have bXU:((z/((2^k:Nat):Int):Int):Rat)*((2^k:Nat):Rat)+1<=(z:Rat):=by exact_mod_cast f1
   have bXT:(z:Rat)+1<=((z/((2^k:Nat):Int):Int):Rat)*((2^k:Nat):Rat)+((2^k:Nat):Rat):=by exact_mod_cast f2
   generalize ((z/((2^k:Nat):Int):Int):Rat)*((2^k:Nat):Rat)=P at *;constructor <;> grind
  ·rintro rfl;unfold kZ.qI;rw[cond_true];obtain⟨f1,f2⟩:=fl (-z) (by omega);have bXU:((-z/((2^k:Nat):Int):Int):Rat)*((2^k:Nat):Rat)+1<=-(z:Rat):=by exact_mod_cast f1
   have bXT:-(z:Rat)+1<=((-z/((2^k:Nat):Int):Int):Rat)*((2^k:Nat):Rat)+((2^k:Nat):Rat):=by exact_mod_cast f2
   rw[cLS];have e:-((-z/((2^k:Nat):Int):Int):Rat)*((2^k:Nat):Rat)=-(((-z/((2^k:Nat):Int):Int):Rat)*((2^k:Nat):Rat)):=by grind
   rw[e];generalize ((-z/((2^k:Nat):Int):Int):Rat)*((2^k:Nat):Rat)=P at *;constructor <;> grind
theorem aRZ{a b s:Nat}(hb:0<b):∃v:Rat,v*(b:Rat)=2*((a:Rat)*((2^s:Nat):Rat))/\0<=v/\((cP.Xg a b s:Rat)=v\/(cP.Xg a b s%2=1/\(cP.Xg a b s:Rat)-1<v/\v<(cP.Xg a b s:Rat)+1)):=by
 have b0:(0:Rat)<(b:Rat):=by exact_mod_cast hb
 have hd:=cDZ (a*2^s) b;have hm:=cBB (a*2^s) hb;have A:(b:Rat)*((a*2^s/b:Nat):Rat)+((a*2^s%b:Nat):Rat)=(a:Rat)*((2^s:Nat):Rat):=by exact_mod_cast hd
 have Mm:((a*2^s%b:Nat):Rat)<(b:Rat):=by exact_mod_cast hm
 have q0:(0:Rat)<=((a*2^s/b:Nat):Rat):=by exact_mod_cast cEU _
 have m0:(0:Rat)<=((a*2^s%b:Nat):Rat):=by exact_mod_cast cEU _
 refine⟨2*((a:Rat)*((2^s:Nat):Rat))/(b:Rat),by grind,?_,?_⟩
 ·refine R.cG b0 ?_;have:(b:Rat)*(2*((a:Rat)*((2^s:Nat):Rat))/(b:Rat))=2*((a:Rat)*((2^s:Nat):Rat)):=by grind
  rw[this,<-A];have:=R.aE (cEA b0) q0;grind
 ·have e:(b:Rat)*(2*((a:Rat)*((2^s:Nat):Rat))/(b:Rat))=2*((b:Rat)*((a*2^s/b:Nat):Rat)+((a*2^s%b:Nat):Rat)):=by rw[A];grind
  generalize 2*((a:Rat)*((2^s:Nat):Rat))/(b:Rat)=v at *;unfold cP.Xg
  by_cases hz:a*2^s%b=0
  ·left;rw[if_pos hz,bZR,cFL];rw[hz]at e;have z:((0:Nat):Rat)=0:=by norm_cast
   have two:((2:Nat):Rat)=2:=by norm_cast
   rw[z]at e;rw[two];have:(b:Rat)*v=(b:Rat)*(((a*2^s/b:Nat):Rat)*2):=by rw[e];grind
   exact(cMX (R.cG b0 (by rw[this];exact cFB)) (R.cG b0 (by rw[this];exact cFB))).symm
  ·right;have m1:(1:Rat)<=((a*2^s%b:Nat):Rat):=by exact_mod_cast(show 1<=a*2^s%b by omega)
   rw[if_neg hz];have c:((a*2^s/b*2+1:Nat):Rat)=2*((a*2^s/b:Nat):Rat)+1:=by
    rw[cJA,cFL];have two:((2:Nat):Rat)=2:=by norm_cast
    have one:((1:Nat):Rat)=1:=by norm_cast
    rw[two,one];grind
   rw[c];refine⟨by omega,?_,?_⟩
   ·refine R.sE b0 ?_;rw[e];grind
   ·refine R.sE b0 ?_;rw[e];grind
end M
namespace W
open Go AI M
namespace Er
def E:=mE [(161,Bq.aJ),(67,wF.aJ)] 20 [] [(4,[10,11,12])] []
def aF:=bd f117
theorem aX:Nk E aF:=nk
def L4(a:Nat)(b:Nat->Bool)(c:Nat->List Int)(d:Nat->Int)(e:Nat->Bool)(f:Nat->List Int)(g:Nat->Int) h j:=tM E f117 aF 4 [(A.v (V.one (L.rows 6 a fun i=>[sc (bool (b i)),ints u64 (c i),sc (int i64 (d i)),sc (bool (e i)),ints u64 (f i),sc (int i64 (g i))])),none),cA h,cA j]
theorem start p (a:yA):aI E f117 aF [D.s (sc (int i64 p)),D.rows 6 1 fun i=>[sc (bool a.fst),ints u64 a.snd.fst,sc (int i64 a.snd.snd.fst),sc (bool a.snd.snd.snd.fst),ints u64 a.snd.snd.snd.snd.fst,sc (int i64 a.snd.snd.snd.snd.snd)]]=aO True (aB (!(decide (1<=p)&&decide (p<=70000))) (some [D.s (sc (int i64 1))]) (Er.L4 1 (fun i=>a.fst) (fun i=>a.snd.fst) (fun i=>a.snd.snd.fst) (fun i=>a.snd.snd.snd.fst) (fun i=>a.snd.snd.snd.snd.fst) (fun i=>a.snd.snd.snd.snd.snd) 1 0)):=eJ aX
theorem wU a b c d e f g h j:L4 a b c d e f g h j=aB (decide (j<h)) (if 0<=j/\j<(a:Int)then aO (fA (b j.toNat,c j.toNat,d j.toNat,e j.toNat,f j.toNat,g j.toNat)) (Er.L4 a (fun i=>b i) (fun i=>c i) (fun i=>d i) (fun i=>e i) (fun i=>f i) (fun i=>g i) h (i64.wrap (j+1)))else none) (some [D.s (sc (int i64 0))]):=lJ aX
def sp(p:Int)(a:yA):Prop×List D:=(fA a,[.s (.sc (.int .i64 (if 1<=p/\p<=70000 then 0 else 1)))])
theorem L(n:Nat)(f:Nat->yA)(hn:n<=1000)(hf:∀i,i<n->fA (f i)):∀d k:Nat,k+d=n->L4 n (fun i=>(f i).1) (fun i=>(f i).2.1) (fun i=>(f i).2.2.1) (fun i=>(f i).2.2.2.1) (fun i=>(f i).2.2.2.2.1) (fun i=>(f i).2.2.2.2.2) (n:Int) (k:Int)=some [D.s (.sc (.int .i64 0))]
 |0,k,h=>by rw[wU,aL]
 |d+1,k,h=>by
  have e:i64.wrap ((k:Int)+1)=((k+1:Nat):Int):=by rw[wrap_i64];omega
  rw[wU,aQ,aW,cCQ,gP (hf k (by omega)),e];exact L n f hn hf d (k+1) (by omega)
theorem spec:hI E f117 aF (pN .i64) (bOM (.pair sB (.pair (sI .u64) (.pair (sN .i64) (.pair sB (.pair (sI .u64) (sN .i64)))))) (false,[],0,false,[],0)) sp:=by
 intro p a h;have hf:∀i,i<1->fA (a):=fun i hi=>h
 refine(start p a).trans ((gP trivial).trans ?_);unfold sp
 by_cases hp:1<=p/\p<=70000
 ·rw[if_pos hp,decide_eq_true hp.1,decide_eq_true hp.2];exact L 1 (fun _=>a) (by decide) hf 1 0 (by omega)
 ·rw[if_neg hp];have:(decide (1<=p)&&decide (p<=70000))=false:=by
   rw[cKM,decide_eq_false_iff_not,decide_eq_false_iff_not];omega
  rw[this];rfl
def aJ:dK:=orc2 (pN .i64) (bOM (.pair sB (.pair (sI .u64) (.pair (sN .i64) (.pair sB (.pair (sI .u64) (sN .i64)))))) (false,[],0,false,[],0)) sp
theorem ok:OK 117 aJ:=(fJ E aF (aA Bq.ok (aA wF.ok aD)) func117).nF rfl spec
end Er
namespace aPX
def E:=mE [(203,Cc.aJ),(56,kN.aJ)] 24 [10] [] []
def aF:=bd f213
theorem aX:Nk E aF:=nk
theorem start a b c:aI E f213 aF [D.agg [sc (bool a),ints u64 b,sc (int i64 c)]]=letI B:=dv (a,b,c);aO (aR (a,b,c)) (aC (if B.fst=0 then(0:Int)else c+(↑(bl (M6.val b)):Int)-(1:Int)) fun d=>letI C:=i64.wrap ((0:Int)-d);letI A:=bif kN.Hi B C then kN.Kr B C else((0:Int),(0:Int));aO (aR (a,b,c)/\(-9223372036854775808:Int)<=i64.wrap ((0:Int)-d)/\i64.wrap ((0:Int)-d)<9223372036854775808) (aC (M6.dg A.fst.natAbs) fun e=>aC A.snd fun f=>some [D.agg [sc (bool false),ints u64 e,sc (int i64 f)],D.s (sc (int i64 d))])):=eJ aX
def sp(x:gQ):Prop×List D:=(aR x/\(dv x).1≠0,[dD (((dv x).1.natAbs:Nat),1-(bl (dv x).1.natAbs:Nat)),.s (.sc (.int .i64 (bB (dv x))))])
theorem spec:jL E f213 aF jO sp:=by
 rintro x ⟨hx,h0⟩;have he:=hx.2.1;have ha:(dv x).1.natAbs=M6.val x.2.1:=iT (x.1,x.2.1);have hb:=hx.Ez.bl;dsimp only at hb;have hb0:=qJ (n:=M6.val x.2.1) (by omega);refine(start x.1 x.2.1 x.2.2).trans ?_;have ht:x.2.2+(bl (M6.val x.2.1):Int)-1=bB (dv x):=by unfold bB;rw[ha];rfl
 have h2:(dv x).2=x.2.2:=rfl;have Pv:kN.Hi (dv x) (0-bB (dv x))=true:=by
  unfold kN.Hi;rw[decide_eq_false h0,cAU,decide_eq_true (by omega),decide_eq_true (by omega)];rfl
 have bUD:kN.Kr (dv x) (0-bB (dv x))=((dv x).1,1-((bl (dv x).1.natAbs:Nat):Int)):=by
  unfold kN.Kr;rw[if_neg h0];congr 1;unfold bB;omega
 have aTB:isNeg ((((dv x).1.natAbs:Nat):Int))=false:=jB.2 (by omega);simp only[aH];have bIQ:¬((dv (x.1,x.2.1,x.2.2)).1=0):=h0;rw[gP hx,if_neg bIQ,ht,wrap_i64 (n:=0-bB (dv x)),gP ⟨hx,by omega,by omega⟩,show dv (x.1,x.2.1,x.2.2)=dv x from rfl,Pv,cond_true,bUD];unfold sp dD
 try dsimp only
 rw[aTB,cEJ]
def aJ:dK:=orc1 jO sp
theorem ok:OK 213 aJ:=(fJ E aF (aA Cc.ok (aA kN.ok aD)) func213).qB rfl spec
end aPX
namespace Gr
def E:=mE [(117,Er.aJ),(120,Iu.aJ),(159,fZ.aJ),(59,Wg.aJ),(213,aPX.aJ)] 77 [19,41] [(15,[1,9,11])] [15]
def aF:=bd f174
theorem aX:Nk E aF:=nk
def aKB a b c d e f g:=mU E f174 aF 15 [cA a,dR 1 29 [cX b,gJ c,dC d],dR 2 29 [cX e,gJ f,dC g]]
theorem start a c d e f g b:aI E f174 aF [D.agg [sc (bool a),ints u64 c,sc (int i64 d),sc (bool e),ints u64 f,sc (int i64 g)],D.s (sc (int i64 b))]=letI G:=sc (bool false);letI F:=dv (e,f,g);letI C:=(a,c,d,e,f,g);letI B:=dv (a,c,d);letI A:=bif bQ.kT F (-B.fst,B.snd)then bQ.oA F (-B.fst,B.snd)else((0:Int),(0:Int));aO (fA C) (aC (if 1<=b/\b<=70000 then(0:Int)else(1:Int)) fun h=>aB (h !=0) (some [D.s G,D.s (sc (int i64 h))]) (aO (aR (a,c,d)/\aR (e,f,g)) (aC (eN B F) fun i=>aB (i==0) (some [D.s (sc (bool true)),D.s (sc (int i64 0))]) (aO (fA C) (aC (fZ.tI (dv (iH C)) (dv (iI C))) fun j=>aB (j==0) (some [D.s G,D.s (sc (int i64 0))]) (aO (aR (e,f,g)/\aR (a,c,d)) (aC (isNeg A.fst) fun k=>aC (M6.dg A.fst.natAbs) fun l=>aC A.snd fun m=>aC (bif bQ.kT F (-B.fst,B.snd)then(0:Int)else(5:Int)) fun n=>aB (n !=0) (some [D.s G,D.s (sc (int i64 n))]) (aB (decide (j<0)) (Gr.aKB b k l m e f g) (Gr.aKB b k l m a c d))))))))):=eJ aX
theorem Pm a b c d e f g:aKB a b c d e f g=letI B:=dv (e,f,g);letI F:=(B.fst.natAbs:Int);letI A:=dv (b,c,d);letI C:=(A.fst.natAbs:Int);aO (aR (b,c,d)/\A.fst≠0) (aC (isNeg C) fun h=>aC (M6.dg C.natAbs) fun i=>aC ((1:Int)-(↑(bl A.fst.natAbs):Int)) fun j=>aC (bB A) fun k=>aO (aR (e,f,g)/\B.fst≠0) (aC (isNeg F) fun l=>aC (M6.dg F.natAbs) fun m=>aC ((1:Int)-(↑(bl B.fst.natAbs):Int)) fun n=>aC (bB B) fun o=>aB (i64.wrap (k+a) !=o) (some [D.s (sc (bool (decide (i64.wrap (k+a)<o)))),D.s (sc (int i64 0))]) (aO (aR (h,i,j)/\aR (l,m,n)) (aC (eN (dv (h,i,j)) (dv (l,m,n))) fun p=>some [D.s (sc (bool (decide (p<=0)))),D.s (sc (int i64 0))])))):=cJ aX
def bBJ(a b:Int×Int)(p:Int):Bool :=
 bif eN a b==0 then true else bif fZ.tI a b==0 then false else
 bif (bB (bQ.oA b (-a.1,a.2))+p) !=bB (bif decide (fZ.tI a b<0)then b else a)then decide (bB (bQ.oA b (-a.1,a.2))+p<bB (bif decide (fZ.tI a b<0)then b else a))
 else decide (eN (aJI (bQ.oA b (-a.1,a.2))) (aJI (bif decide (fZ.tI a b<0)then b else a))<=0)
def sp(s:yA)(p:Int):Prop×List D:=(fA s/\(1<=p/\p<=70000)/\bQ.kT (dv (iI s)) (-(dv (iH s)).1,(dv (iH s)).2)=true,[.s (.sc (.bool (bBJ (dv (iH s)) (dv (iI s)) p))),.s (.sc (.int .i64 0))])
theorem J{p:Int}{w n:Int×Int}{x:gQ}(hp:1<=p/\p<=70000)(hw:kE w)(hn:aR x)(he:dv x=n)(w0:w.1≠0)(n0:n.1≠0) :
  aKB p (isNeg w.1) (M6.dg w.1.natAbs) w.2 x.1 x.2.1 x.2.2=some [.s (.sc (.bool (bif (bB w+p) !=bB n then decide (bB w+p<bB n)else decide (eN (aJI w) (aJI n)<=0)))),.s (.sc (.int .i64 0))]:=by
 subst he;have c:=dX w;have cx:(x.1,x.2.1,x.2.2)=x:=rfl;have t1:=hw.top;have t2:=hn.wL.top;rw[Pm];simp only[aH,c,cx];rw[gP ⟨dP hw,w0⟩,gP ⟨hn,n0⟩,wrap_i64 (n:=bB w+p)]
 by_cases h:bB w+p=bB (dv x)
 ·rw[gF h];have d1:=dP (aLW hw w0);have d2:=dP (aLW hn.wL n0);have e1:=dX (aJI w);have e2:=dX (aJI (dv x));rw[show((bB w+p) !=bB (dv x))=false from by rw[h];exact bne_self_eq_false _,cond_false];unfold aJI at d1 d2 e1 e2 ⊢;dsimp only at d1 d2 e1 e2 ⊢;rw[gP ⟨d1,d2⟩,e1,e2]
 ·rw[nZ h,show((bB w+p) !=bB (dv x))=true from bne_iff_ne.2 h,cond_true]
theorem spec:hI E f174 aF zQ (pN .i64) sp:=by
 rintro s p ⟨h1,hp,ao⟩;have hL:aR (s.1,s.2.1,s.2.2.1):=h1.1;have hH:aR (s.2.2.2.1,s.2.2.2.2.1,s.2.2.2.2.2):=h1.2.1;refine(start s.1 s.2.1 s.2.2.1 s.2.2.2.1 s.2.2.2.2.1 s.2.2.2.2.2 p).trans ?_;rw[gP h1,aH,if_pos hp,gF rfl,gP ⟨hL,hH⟩,aH];unfold sp bBJ;dsimp only;unfold iH iI at *;generalize ha:dv (s.1,s.2.1,s.2.2.1)=a at *;generalize hb:dv (s.2.2.2.1,s.2.2.2.2.1,s.2.2.2.2.2)=b at *
 by_cases c:eN a b=0
 ·rw[cD c,show(eN a b==0)=true from beq_iff_eq.2 c,cond_true]
 ·rw[bJ c,show(eN a b==0)=false from beq_eq_false_iff_ne.2 c,cond_false,gP h1,aH]
  by_cases d:fZ.tI a b=0
  ·rw[cD d,show(fZ.tI a b==0)=true from beq_iff_eq.2 d,cond_true]
  ·rw[bJ d,show(fZ.tI a b==0)=false from beq_eq_false_iff_ne.2 d,cond_false,gP ⟨hH,hL⟩,ao];simp only[aH,cond_true];rw[gF rfl];have pa:kE a:=ha▸hL.wL;have pb:kE b:=hb▸hH.wL;have pw:=Tu pb (by obtain⟨x1,x2,x3,x4⟩:=pa;exact⟨by dsimp only;rw[cFE];exact x1,x2,fun h=>x3 (by dsimp only at h;omega),fun h=>by dsimp only at h ⊢;have:=x4 (by omega);omega⟩) ao;have w0:=aLG c
   by_cases g:fZ.tI a b<0
   ·have n0:b.1≠0:=fun hz=>by
     have:=Ci hz;unfold fZ.tI at g;rw[aP]at g;split at g <;> omega
    rw[aQ g,decide_eq_true g,cond_true];exact J hp pw hH hb w0 n0
   ·have n0:a.1≠0:=fun hz=>by
     have:=Ci hz;unfold fZ.tI at g d;split at g
     ·omega
     ·rw[aP,aP]at d;exact d rfl
    rw[aL g,decide_eq_false g,cond_false];exact J hp pw hL ha w0 n0
def aJ:dK:=orc2 zQ (pN .i64) sp
theorem ok:OK 174 aJ:=(fJ E aF (aA Er.ok (aA Iu.ok (aA fZ.ok (aA Wg.ok (aA aPX.ok aD))))) func174).nF rfl spec
end Gr
end W
end Go.Proofs.YtplagoepbghhpaaGreatDoor
end
