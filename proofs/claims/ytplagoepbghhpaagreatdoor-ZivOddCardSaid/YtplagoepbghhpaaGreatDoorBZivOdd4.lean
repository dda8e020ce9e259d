/- Contracts. -/
import Derived.WalkKit
import Derived.Test.YtplagoepbghhpaaGreatDoorBZivOdd3
set_option linter.unusedVariables false
set_option linter.unusedSimpArgs false
set_option exponentiation.threshold 10000000
noncomputable section
open Go.IntKind(i8 i16 i32 i64 u8 u16 u32 u64)
open Go.Proofs.Tryz
open Nat renaming le_trans->cCL,lt_of_le_of_lt->cIE,pow_add->cGP,pow_succ->cGO,pow_pos->cEP,div_le_self->cKC,lt_of_lt_of_le->cCM,mul_comm->cGN,zero_le->cHS,mul_lt_mul''->cKD,zero_add->cBR,sub_le->cIA,mod_lt->cDX,le_refl->cBP,pow_lt_pow_right->cII,one_mul->cFT,pow_le_pow_right->cEQ,ble->cBS,le_of_ble_eq_true->cDN,add_mul->cCJ,mul_assoc->cGS,mul_add->cGQ,div_lt_of_lt_mul->cHJ,div_div_eq_div_mul->cHG,beq->cBQ,eq_of_beq_eq_true->cCE,mul_le_mul->cMD,mul_le_mul_right->cDE,add_zero->cCN,lt_succ_self->cPX,add_comm->cHQ,mul_lt_mul_of_pos_left->cPZ,mul_lt_mul_of_pos_right->cKB,min_eq_left->cHV,mod_add_div->cMG,mul_le_mul_left->cED,div_add_mod->cGV
open Rat renaming le_of_lt->cGW,intCast_natCast->cNB,le_refl->cID,intCast_mul->cNA,intCast_neg->cOO,natCast_mul->cIO,natCast_add->cMB,le_trans->cGU,mul_pos->cHI,intCast_sub->cPV,mul_assoc->cMZ,mul_comm->cOL,intCast_add->cOP,le_antisymm->cPY
open Int renaming toNat_natCast->cFM,natAbs_natCast->cHH,eq_ofNat_of_zero_le->cGR,natAbs_neg->cIJ,natAbs->cLR,natAbs_mul->cHC,mul_nonneg->cND,toNat->cPW,neg_mul->cLF,mul_comm->cJO,natCast_mul->cHN,mul_ediv_add_emod->cKS,emod_nonneg->cKT,emod_lt_of_pos->cKU,mul_le_mul_of_nonneg_left->cQB,tmod_eq_emod_of_nonneg->cJE,mul_le_mul_of_nonneg_right->cDZ,natCast_nonneg->cLI
open Bool renaming not_true->cDP,false_or->cDQ,or_true->cHO,true_or->cGZ,true_and->cER,and_eq_true->cBV,not_false->cNC,and_eq_false_iff->cNJ
open List renaming take->cHK,replicate->cDS,drop->cHL,take_length->cIK,length_take->cEF,drop_zero->cHW,take_of_length_le->cIZ,drop_replicate->cPB,length_replicate->cOY,nil_append->cFS
open Option renaming bind_eq_some_iff->cDW
namespace Go.Proofs.YtplagoepbghhpaaGreatDoor
open Go.Value(int bool slice)
open AI.S(sc ints)
namespace W
open Go AI M
namespace Jl
def E:Env:={ ({ base with C:=tK [(267,rD.aJ)] (callsOf [(261,Ch.aJ),(253,oQ.prec)]),ioF:=Qs [(267,rD.aJ)],n0:=1,io:=[0] })with nt:=34,own:=[],keep:=fun k=>(tlook [(1,[0,1,2,6])] k).getD [],cut:=tlook [] }
def aE:=bd f265
theorem aT:Nk E aE:=nk
def L1(a:List Int)(b:Nat)(c:Nat) d f g:=qA E f265 aE 1 [(A.any,some { e:=(22:Nat),cont:=rJ.ints u64 a }),(A.v (V.one (L.view 0 b c)),none),jK d,jK f,bP g]
theorem start al ao an b c:aF E f265 aE [D.io gX u64 al ao an,D.s (ints u64 b),D.s (ints u64 c)]=Jl.L1 al ao an b c 0:=eJ aT
theorem Tl a b c d e f:L1 a b c d e f=letI C:=(d.length:Int);letI B:=f+(e.length:Int);letI A:=cHL f.toNat (cHK (if C<i64.wrap B then C else i64.wrap B).toNat d);aB (decide (f<C)) (if 0<=f/\(f<=if C<i64.wrap B then C else i64.wrap B)/\((if C<i64.wrap B then C else i64.wrap B)<=if C<i64.wrap B then C else i64.wrap B)/\(if C<i64.wrap B then C else i64.wrap B)<=C then aN (M6.cA A/\A.length<=1099511627776) (aD (M6.dg (M6.val A)) fun g=>aN (oQ.can g e) (aD (M6.dg (M6.val g*M6.val e)) fun h=>aN (M6.cA a/\b=0/\c=a.length/\M6.cA h/\0<=f/\f.toNat+h.length<=a.length/\a.length<=1099511627776/\M6.val a+M6.val h*(18446744073709551616:Nat)^f.toNat<(18446744073709551616:Nat)^a.length) (aD (M6.rU a.length (M6.val a+M6.val h*(18446744073709551616:Nat)^f.toNat)) fun i=>Jl.L1 i b c d e (i64.wrap B))))else none) (some [D.io 22 u64 a 0 0]):=lJ aT
def sp(x:List Int×Nat×Nat)(a b:List Int):Prop×List D:=(M6.cA x.1/\x.2.1=0/\x.2.2=x.1.length/\M6.cN a/\M6.cN b/\x.1.length=a.length+b.length/\x.1.length<=549755813888/\M6.val x.1=0/\0<b.length/\2*b.length<=a.length/\oQ.less (a.length+b.length),
 [.io gX .u64 (M6.rU x.1.length (M6.val a*M6.val b)) 0 0])
theorem bQU{a b:List Int}{N:Nat}(hN:N<=549755813888)(ha:M6.cN a)(hb:M6.cN b)(bPH:N=a.length+b.length)(h0:0<b.length)(h2:2*b.length<=a.length)(hc:oQ.less (a.length+b.length)):∀(r at_:Nat) (z:List Int),a.length<=at_+r->at_<=N->z.length=N->M6.cA z->M6.val z=M6.val (a.take at_)*M6.val b ->
  L1 z 0 N a b at_=some [.io gX .u64 (M6.rU N (M6.val a*M6.val b)) 0 0]:=by
 intro r
 induction r with
 |zero =>
  intro t z hr ht hz hd hv;rw[Tl,aL];rw[M6.bW (by omega)]at hv;rw[M6.qV hd hz hv]
 |succ r ih =>
  intro t z hr ht hz hd hv
  by_cases kD:t<a.length
  ·have w:i64.wrap ((t:Int)+(b.length:Int))=((t+b.length:Nat):Int):=by rw[wrap_i64];omega
   obtain⟨e,he⟩:∃e:Nat,e=min a.length (t+b.length):=⟨_,rfl⟩;have bYL:(if(a.length:Int)<((t+b.length:Nat):Int)then(a.length:Int)else((t+b.length:Nat):Int))=(e:Int):=by split <;> omega
   have Sn:((a.take e).drop t).length=e-t:=by rw[List.length_drop,cEF];omega
   have bSP:M6.cA ((a.take e).drop t):=(ha.jA.take _).drop _;have bNN:=M6.dT bSP;rw[Sn]at bNN;have Qg:M6.val (a.take e)=M6.val (a.take t)+18446744073709551616^t*M6.val ((a.take e).drop t):=by
    have:=M6.iJ (a.take e) (n:=t) (by rw[cEF];omega);rw[List.take_take,show min t e=t from by omega]at this;exact this
   have bTC:=M6.dT hb.jA;have jM:=M6.iG ha.jA e;have h1:M6.val ((a.take e).drop t)*M6.val b<18446744073709551616^(e-t+b.length):=by
    rw[cGP];exact cKD bNN bTC
   have h3:M6.val (a.take e)*M6.val b<18446744073709551616^N:=by
    have:M6.val (a.take e)*M6.val b<18446744073709551616^(e+b.length):=by
     rw[cGP];exact cKD jM bTC
    exact cCM this (M6.sH (by omega))
   have h4:M6.val z+M6.val ((a.take e).drop t)*M6.val b*18446744073709551616^t=M6.val (a.take e)*M6.val b:=by
    rw[hv,Qg,cCJ];congr 1;rw[cGN (18446744073709551616^t),Nat.mul_right_comm]
   rw[Tl,aM,w,bYL,if_pos ⟨by omega,by omega,by omega,by omega⟩];simp only[cFM];rw[gP ⟨bSP,by omega⟩,aI,gP (hc _ _ (M6.aY _) hb (by have:=M6.dS bNN;omega)),aI,M6.bD,M6.bD];have Ka:=M6.dS h1;rw[gP ⟨hd,by trivial,by omega,M6.gG _,by omega,by omega,by omega,by rw[h4,hz];exact h3⟩,aI,hz,h4];refine ih (t+b.length) _ (by omega) (by omega) (M6.jE h3) M6.nG ?_;rw[M6.nF];congr 1
   by_cases bHS:t+b.length<=a.length
   ·rw[he,Nat.min_eq_right bHS]
   ·rw[he,cHV (by omega),cIK,M6.bW (by omega)]
  ·rw[Tl,aL];rw[M6.bW (by omega)]at hv;rw[M6.qV hd hz hv]
theorem spec(x:List Int×Nat×Nat)(a b:List Int)(h:(sp x a b).1):aF E f265 aE [(Ga gX .u64).put x,(pI .u64).put a,(pI .u64).put b]=some (sp x a b).2/\∃rs oH,(sp x a b).2=rs ++ [.io gX .u64 oH 0 0]/\oH.length=x.1.length:=by
 obtain⟨xl,xo,xn⟩:=x;obtain⟨hd,ho,hn,ha,hb,hl,hN,hv,h0,h2,hc⟩:=h;simp only at hd ho hn hl hN hv;subst ho;subst hn;refine⟨(start xl 0 xl.length a b).trans ?_,[],_,rfl,M6.jE ?_⟩
 ·exact bQU hN ha hb hl h0 h2 hc a.length 0 xl (by omega) (by omega) rfl hd (by simp[hv,M6.val])
 ·show _<18446744073709551616^xl.length;rw[hl,cGP];exact cKD (M6.dT ha.jA) (M6.dT hb.jA)
def aJ:dJ:=orc3 (Ga gX .u64) (pI .u64) (pI .u64) sp
theorem fnok:nL prog E 265 f265 aE:=xQ tN mixed (nJ _ _ rfl rfl (nP rD.ok zH) (aA Ch.ok (aA oQ.aFR aC)) (pJ)) func265 rfl rfl rfl rfl rfl
theorem ok:rZ prog base.glob 265 aJ:=fnok.xN rfl spec
end Jl
namespace bCV
def E:=mE [(261,Ch.aJ)] 29 [16,21] [] []
def aE:=bd f268
theorem aT:Nk E aE:=nk
theorem start a b:aF E f268 aE [D.s (ints u64 a),D.s (sc (int i64 b))]=letI C:=cHL 0 (cHK b.toNat a);letI A:=(a.length:Int);letI F:=cHK A.toNat a;letI B:=cHL 0 F;aB (decide (A<=b)) (if(0:Int)<=(0:Int)/\0<=A/\A<=A/\A<=A then aN (M6.cA B/\B.length<=1099511627776) (some [D.s (ints u64 (M6.dg (M6.val B))),D.s (sc (slice none 0 0))])else none) (if(0:Int)<=(0:Int)/\0<=b/\b<=b/\b<=A then aN (M6.cA C/\C.length<=1099511627776) (if 0<=b/\b<=A/\A<=A/\A<=A then some [D.s (ints u64 (M6.dg (M6.val C))),D.s (ints u64 (cHL b.toNat F))]else none)else none):=eJ aT
def sp(a:List Int)(k:Int):Prop×List D:=(M6.cN a/\a.length<=1099511627776/\0<=k,[.s (.ints .u64 (M6.dg (M6.val a%18446744073709551616^k.toNat))),.s (.ints .u64 (M6.dg (M6.val a/18446744073709551616^k.toNat)))])
theorem spec:Ro E f268 aE (pI .u64) (pN .i64) sp:=by
 rintro a k ⟨ha,hl,h0⟩;obtain⟨k,rfl⟩:=cGR h0;simp only[sp,cFM];have aGG:=start a (k:Int)
 by_cases hk:a.length<=k
 ·rw[aM,aR,cFM,cIK,cHW,gP ⟨ha.jA,hl⟩]at aGG;refine⟨_,aGG,?_⟩;have h1:M6.val a<18446744073709551616^k:=cCM (M6.dT ha.jA) (M6.sH hk);rw[Nat.mod_eq_of_lt h1,Nat.div_eq_of_lt h1,M6.cD];exact .cons (.refl _) (.cons (.nil _) .nil)
 ·rw[aL,aR,cFM,cFM,cHW,gP ⟨ha.jA.take _,by rw[cEF];omega⟩,aR,cIK,M6.vM ha.jA]at aGG;refine⟨_,aGG,?_⟩;have h2:a.drop k=M6.dg (M6.val a/18446744073709551616^k):=by
   rw[<-M6.lU ha.jA];exact M6.Yl ha k
  rw[h2];exact .refl _
def aJ:dJ:=orc2 (pI .u64) (pN .i64) sp
theorem ok:OK 268 aJ:=(dY E aE (aA Ch.ok aC) func268).aSE rfl spec
end bCV
namespace PSum
def E:Env:={ ({ base with C:=tK [(267,rD.aJ)] (callsOf [(261,Ch.aJ)]),ioF:=Qs [(267,rD.aJ)] })with nt:=25,own:=[24],keep:=fun k=>(tlook [] k).getD [],cut:=tlook [(3,[0,1])] }
def aE:=bd f269
theorem aT:Nk E aE:=nk
def J3 a b:=lK E f269 aE 3 [jK a,jK b]
theorem start a b:aF E f269 aE [D.s (ints u64 a),D.s (ints u64 b)]=aB (decide ((a.length:Int)<(b.length:Int))) (PSum.J3 b a) (PSum.J3 a b):=eJ aT
theorem iB a b:J3 a b=letI F:=(a.length:Int);letI G:=F+(1:Int);letI B:=i64.wrap G;letI A:=cHK B.toNat a ++ cHL (min a.length B.toNat) (cDS B.toNat (0:Int));letI C:=M6.rU A.length (M6.val A+M6.val b*1);if 0<=i64.wrap G/\i64.wrap G<=i64.wrap G/\i64.wrap G<=8796093022208 then aN (M6.cA A/\(0:Nat)=(0:Nat)/\B.toNat=A.length/\M6.cA b/\(0:Int)<=(0:Int)/\(0:Nat)+b.length<=A.length/\A.length<=1099511627776/\M6.val A+M6.val b*1<(18446744073709551616:Nat)^A.length) (aN (M6.cA C/\C.length<=1099511627776) (some [D.s (ints u64 (M6.dg (M6.val C)))]))else none:=cJ aT
def sp(a b:List Int):Prop×List D:=(M6.cN a/\M6.cN b/\a.length<=549755813888/\b.length<=549755813888,[.s (.ints .u64 (M6.dg (M6.val a+M6.val b)))])
theorem aVY{a:List Int}{n:Nat}:cHK (a.length+n) a ++ cHL (min a.length (a.length+n)) (cDS (a.length+n) (0:Int))=a ++ cDS n 0:=by
 rw[cIZ (by omega),cPB];congr 2;omega
theorem J{a b:List Int}(ha:M6.cN a)(hb:M6.cN b)(hl:a.length<=549755813888)(aVB:b.length<=a.length):J3 a b=some [.s (.ints .u64 (M6.dg (M6.val a+M6.val b)))]:=by
 have w:i64.wrap ((a.length:Int)+1)=((a.length+1:Nat):Int):=by rw[wrap_i64];omega
 have h1:=M6.dT ha.jA;have h2:=M6.dT hb.jA;have h3:=M6.sH aVB;have aUP:M6.val a+M6.val b<18446744073709551616^(a.length+1):=by rw[cGO];omega
 have hv:M6.val (a ++ cDS 1 0)=M6.val a:=by rw[M6.jW,M6.jB];omega
 rw[iB,w,cFM,aVY,aR,hv,Nat.mul_one,List.length_append,cOY,
  gP ⟨M6.qD.2 ⟨ha.jA,M6.jD _⟩,rfl,rfl,hb.jA,by omega,by omega,by omega,aUP⟩,gP ⟨M6.nG,by rw[M6.jE aUP];omega⟩,M6.nF]
theorem spec:fN E f269 aE (pI .u64) (pI .u64) sp:=by
 rintro a b ⟨ha,hb,h1,h2⟩;refine(start a b).trans ?_
 by_cases hl:a.length<b.length
 ·rw[aM,J hb ha h2 (by omega),cHQ];rfl
 ·rw[aL,J ha hb h1 (by omega)];rfl
def aJ:dJ:=orc2 (pI .u64) (pI .u64) sp
theorem fnok:uU prog E 269 f269 aE:=aJB tN mixed (nJ _ _ rfl rfl (nP rD.ok zH) (aA Ch.ok aC) (pJ)) func269 rfl rfl rfl
theorem ok:mM prog base.glob 269 aJ:=fnok.lD rfl spec
end PSum
namespace Kg
def E:Env:={ ({ base with n0:=1,io:=[0] })with nt:=47,own:=[],keep:=fun k=>(tlook [(7,[0,4,6]),(2,[0,1,4,8,9])] k).getD [],cut:=tlook [] }
def aE:=bd f270
theorem aT:Nk E aE:=nk
def L2(a:List Int)(b:Nat)(c:Nat) d f g h:=qA E f270 aE 2 [(A.any,some { e:=(22:Nat),cont:=rJ.ints u64 a }),(A.v (V.one (L.view 0 b c)),none),jK d,dM f,bP g,bP h]
def L7(a:List Int)(b:Nat)(c:Nat) d f:=qA E f270 aE 7 [(A.any,some { e:=(22:Nat),cont:=rJ.ints u64 a }),(A.v (V.one (L.view 0 b c)),none),dM d,bP f]
theorem start al ao an b:aF E f270 aE [D.io gX u64 al ao an,D.s (ints u64 b)]=Kg.L2 al ao an b 0 (b.length:Int) 0:=eJ aT
theorem mG a b c d e f g:L2 a b c d e f g=letI A:=b+g.toNat;aB (decide (g<f)) (if 0<=g/\g<(c:Int)then if 0<=g/\g<(d.length:Int)then aN (0<=a.getD A 0/\0<=d.getD g.toNat 0/\d.getD g.toNat 0<(18446744073709551616:Int)/\0<=e/\e<=1) (if 0<=g/\g<(c:Int)then Kg.L2 (a.set A ((a.getD A 0-d.getD g.toNat 0-e)%18446744073709551616)) b c d (if a.getD A 0<d.getD g.toNat 0+e then(1:Int)else(0:Int)) f (i64.wrap (g+1))else none)else none else none) (Kg.L7 a b c e (d.length:Int)):=lJ aT
theorem yN a b c d e:L7 a b c d e=letI A:=b+e.toNat;aB (decide (0<d)) (if 0<=e/\e<(c:Int)then aN (0<=a.getD A 0/\(0:Int)<=(0:Int)/\(0:Int)<(18446744073709551616:Int)/\0<=d/\d<=1) (if 0<=e/\e<(c:Int)then Kg.L7 (a.set A ((a.getD A 0-(0:Int)-d)%18446744073709551616)) b c (if a.getD A 0<(0:Int)+d then(1:Int)else(0:Int)) (i64.wrap (e+1))else none)else none) (some [D.io 22 u64 a 0 0]):=lJ aT
def sp(x:List Int×Nat×Nat)(b:List Int):Prop×List D:=(M6.cA x.1/\x.2.1=0/\x.2.2=x.1.length/\M6.cA b/\b.length<=x.1.length/\x.1.length<=1099511627776/\M6.val b<=M6.val x.1,
 [.io gX .u64 (M6.rU x.1.length (M6.val x.1-M6.val b)) 0 0])
theorem bQR{V W N:Nat}(hN:N<=1099511627776)(hT:W<=V):∀(r j:Nat) (z:List Int) (c:Int),j+r=N+1->z.length=N->M6.cA z->0<=c->c<=1->M6.val z+W=V+18446744073709551616^j*c.toNat ->
  L7 z 0 N c j=some [.io gX .u64 (M6.rU N (V-W)) 0 0]:=by
 intro r
 induction r with
 |zero =>
  intro j z c hj hz hd h0 h1 hv;have hc:c=0:=by
   have h2:=M6.sH (show N<=j by omega);have h3:=M6.dT hd;rw[hz]at h3;rcases Int.lt_or_le 0 c with h4 |h4
   ·have:c=1:=by omega
    subst this;simp at hv;omega
   ·omega
  subst hc;rw[yN,aL];simp at hv;rw[M6.qV hd hz (v:=V-W) (by omega)]
 |succ r ih =>
  intro j z c hj hz hd h0 h1 hv
  by_cases hc:c=0
  ·subst hc;rw[yN,aL];simp at hv;rw[M6.qV hd hz (v:=V-W) (by omega)]
  ·have bEF:c=1:=by omega
   subst bEF;have bYF:j<N:=by
    rcases Nat.lt_or_ge j N with h |h
    ·exact h
    ·have h2:=M6.sH h;have h3:=M6.dT hd;rw[hz]at h3;simp at hv;omega
   have g:=hd.get j;have w2:i64.wrap ((j:Int)+1)=((j+1:Nat):Int):=by rw[wrap_i64];omega
   rw[yN,aM,aR,cBR,cFM,gP ⟨g.1,by omega,by omega,by omega,by omega⟩,aR,w2];refine ih (j+1) _ _ (by omega) (by simp[hz]) (M6.nH hd (by omega)) (by split <;> omega) (by split <;> omega) ?_;have hs:=M6.oS (a:=z) (j:=j) (by omega) ((z.getD j 0-0-1)%18446744073709551616);rw[cGO,cGS];generalize z.getD j 0=x at *;generalize M6.val (z.set j _)=U at *;generalize 18446744073709551616^j=B at *;have e:((x-0-1)%18446744073709551616).toNat+1=x.toNat+18446744073709551616*(if x<0+1 then(1:Int)else 0).toNat:=by split <;> omega
   have e2:B*((x-0-1)%18446744073709551616).toNat+B=B*x.toNat+B*(18446744073709551616*(if x<0+1 then(1:Int)else 0).toNat):=by
    rw[<-cGQ,<-e,cGQ,Nat.mul_one]
   simp at hv;omega
theorem bQT{b:List Int}{V N:Nat}(hN:N<=1099511627776)(hb:M6.cA b)(hk:b.length<=N)(hT:M6.val b<=V):∀(r i:Nat) (z:List Int) (c:Int),i+r=b.length->z.length=N->M6.cA z->0<=c->c<=1 ->
  M6.val z+M6.val (b.take i)=V+18446744073709551616^i*c.toNat ->
  L2 z 0 N b c b.length i=some [.io gX .u64 (M6.rU N (V-M6.val b)) 0 0]:=by
 intro r
 induction r with
 |zero =>
  intro i z c hi hz hd h0 h1 hv;rw[mG,aL];have bAT:i=b.length:=by omega
  subst bAT;rw[cIK]at hv;exact bQR hN hT (N+1-b.length) b.length z c (by omega) hz hd h0 h1 hv
 |succ r ih =>
  intro i z c hi hz hd h0 h1 hv;have g:=hd.get i;have g2:=hb.get i;have w2:i64.wrap ((i:Int)+1)=((i+1:Nat):Int):=by rw[wrap_i64];omega
  rw[mG,aM,aR,aR,cBR,cFM,gP ⟨g.1,g2.1,g2.2,h0,h1⟩,aR,w2];refine ih (i+1) _ _ (by omega) (by simp[hz]) (M6.nH hd (by omega)) (by split <;> omega) (by split <;> omega) ?_;have hs:=M6.oS (a:=z) (j:=i) (by omega) ((z.getD i 0-b.getD i 0-c)%18446744073709551616);rw[M6.bM,cGO,cGS];generalize z.getD i 0=x at *;generalize b.getD i 0=y at *;generalize M6.val (z.set i _)=W at *;generalize 18446744073709551616^i=B at *;generalize M6.val (b.take i)=U at *;have e:((x-y-c)%18446744073709551616).toNat+y.toNat+c.toNat=x.toNat+18446744073709551616*(if x<y+c then(1:Int)else 0).toNat:=by split <;> omega
  have e2:B*((x-y-c)%18446744073709551616).toNat+B*y.toNat+B*c.toNat=B*x.toNat+B*(18446744073709551616*(if x<y+c then(1:Int)else 0).toNat):=by
   rw[<-cGQ,<-cGQ,e,cGQ]
  omega
theorem spec(x:List Int×Nat×Nat)(b:List Int)(h:(sp x b).1):aF E f270 aE [(Ga gX .u64).put x,(pI .u64).put b]=some (sp x b).2/\∃rs oH,(sp x b).2=rs ++ [.io gX .u64 oH 0 0]/\oH.length=x.1.length:=by
 obtain⟨xl,xo,xn⟩:=x;obtain⟨hd,ho,hn,hb,aKS,hl,hT⟩:=h;simp only at hd ho hn hb aKS hl hT;subst ho;subst hn;refine⟨(start xl 0 xl.length b).trans ?_,[],_,rfl,M6.jE (by have:=M6.dT hd;simp only;omega)⟩;have:=bQT hl hb aKS hT b.length 0 xl 0 (by omega) rfl hd (by omega) (by omega) (by simp[M6.val]);exact this
def aJ:dJ:=orc2 (Ga gX .u64) (pI .u64) sp
theorem fnok:nL prog E 270 f270 aE:=xQ tN mixed (nI _ rfl aC (pJ)) func270 rfl rfl rfl rfl rfl
theorem ok:rZ prog base.glob 270 aJ:=fnok.lD rfl spec
end Kg
namespace Lz
def E:Env:={ ({ base with C:=tK [(267,rD.aJ),(270,Kg.aJ)] (callsOf [(261,Ch.aJ),(268,bCV.aJ),(269,PSum.aJ),(253,oQ.prec)]),ioF:=Qs [(267,rD.aJ),(270,Kg.aJ)],n0:=1,io:=[0] })with nt:=62,own:=[42],keep:=fun k=>(tlook [] k).getD [],cut:=tlook [] }
def aE:=bd f266
theorem aT:Nk E aE:=nk
theorem start al ao an b c:aF E f266 aE [D.io gX u64 al ao an,D.s (ints u64 b),D.s (ints u64 c)]=letI B:=i64.wrap ((b.length:Int)+(1:Int));letI H:=B.tdiv 2;letI F:=i64.wrap ((2:Int)*i64.wrap H);letI C:=i64.wrap H;aN (M6.cN b/\b.length<=1099511627776/\0<=i64.wrap H) (aD (M6.dg (M6.val b%(18446744073709551616:Nat)^C.toNat)) fun a=>aD (M6.dg (M6.val b/(18446744073709551616:Nat)^C.toNat)) fun d=>aN (M6.cN c/\c.length<=1099511627776/\0<=i64.wrap H) (aD (M6.dg (M6.val c%(18446744073709551616:Nat)^C.toNat)) fun e=>aD (M6.dg (M6.val c/(18446744073709551616:Nat)^C.toNat)) fun f=>aN (oQ.can a e) (aD (M6.dg (M6.val a*M6.val e)) fun g=>letI A:=cHK ao al ++ (cHK an g ++ cHL (ao+min g.length an) al);aN (oQ.can d f) (aD (M6.dg (M6.val d*M6.val f)) fun h=>aN (M6.cN a/\M6.cN d/\a.length<=549755813888/\d.length<=549755813888) (aD (M6.dg (M6.val a+M6.val d)) fun i=>aN (M6.cN e/\M6.cN f/\e.length<=549755813888/\f.length<=549755813888) (aD (M6.dg (M6.val e+M6.val f)) fun j=>aN (oQ.can i j) (aD (M6.dg (M6.val i*M6.val j)) fun k=>aN (M6.cA k/\(0:Nat)=(0:Nat)/\k.length=k.length/\M6.cA g/\g.length<=k.length/\k.length<=1099511627776/\M6.val g<=M6.val k) (aD (M6.rU k.length (M6.val k-M6.val g)) fun l=>aN (M6.cA l/\(0:Nat)=(0:Nat)/\k.length=l.length/\M6.cA h/\h.length<=l.length/\l.length<=1099511627776/\M6.val h<=M6.val l) (aD (M6.rU l.length (M6.val l-M6.val h)) fun m=>letI G:=M6.dg (M6.val m);if u64=u64/\ao+an<=al.length then aN (M6.cA m/\m.length<=1099511627776) (aN (M6.cA A/\ao=0/\an=A.length/\M6.cA G/\0<=i64.wrap H/\C.toNat+G.length<=A.length/\A.length<=1099511627776/\M6.val A+M6.val G*(18446744073709551616:Nat)^C.toNat<(18446744073709551616:Nat)^A.length) (aD (M6.rU A.length (M6.val A+M6.val G*(18446744073709551616:Nat)^C.toNat)) fun n=>aN (M6.cA n/\ao=0/\an=n.length/\M6.cA h/\0<=i64.wrap ((2:Int)*i64.wrap H)/\F.toNat+h.length<=n.length/\n.length<=1099511627776/\M6.val n+M6.val h*(18446744073709551616:Nat)^F.toNat<(18446744073709551616:Nat)^n.length) (aD (M6.rU n.length (M6.val n+M6.val h*(18446744073709551616:Nat)^F.toNat)) fun o=>some [D.io 22 u64 o 0 0])))else none))))))))):=eJ aT
def sp(x:List Int×Nat×Nat)(a b:List Int):Prop×List D:=(M6.cA x.1/\x.2.1=0/\x.2.2=x.1.length/\M6.cN a/\M6.cN b/\x.1.length=a.length+b.length/\x.1.length<=274877906944/\M6.val x.1=0/\4<=b.length/\b.length<=a.length/\oQ.less (a.length+b.length),
 [.io gX .u64 (M6.rU x.1.length (M6.val a*M6.val b)) 0 0])
theorem bMG(a0 a1 b0 b1 K:Nat):(a0+K*a1)*(b0+K*b1)=a0*b0+(a0*b1+a1*b0)*K+a1*b1*(K*K):=by grind
theorem bMF(a0 a1 b0 b1:Nat):(a0+a1)*(b0+b1)=a0*b0+a1*b1+(a0*b1+a1*b0):=by grind
theorem Hq{v n k:Nat}(h:v<18446744073709551616^n):v/18446744073709551616^k<18446744073709551616^(n-k):=by
 apply cHJ;rw[<-cGP];exact cCM h (M6.sH (by omega))
theorem aFT{v k N:Nat}(hk:k<=N)(h:v*18446744073709551616^k<18446744073709551616^N):v<18446744073709551616^(N-k):=by
 have e:18446744073709551616^N=18446744073709551616^(N-k)*18446744073709551616^k:=by rw[<-cGP];congr 1;omega
 rw[e]at h;exact Nat.lt_of_mul_lt_mul_right h
theorem spec(x:List Int×Nat×Nat)(a b:List Int)(h:(sp x a b).1):aF E f266 aE [(Ga gX .u64).put x,(pI .u64).put a,(pI .u64).put b]=some (sp x a b).2/\∃rs oH,(sp x a b).2=rs ++ [.io gX .u64 oH 0 0]/\oH.length=x.1.length:=by
 obtain⟨xl,xo,xn⟩:=x;obtain⟨hd,ho,hn,ha,hb,hl,hN,hv,h4,aVB,hc⟩:=h;simp only at hd ho hn hl hN hv;subst ho;subst hn;have aPH:=M6.dT ha.jA;have bLA:=M6.dT hb.jA;have bIF:M6.val a*M6.val b<18446744073709551616^xl.length:=by rw[hl,cGP];exact cKD aPH bLA
 refine⟨(start xl 0 xl.length a b).trans ?_,[],_,rfl,M6.jE bIF⟩;obtain⟨k,hk⟩:∃k:Nat,k=(a.length+1)/2:=⟨_,rfl⟩;have w:i64.wrap ((i64.wrap ((a.length:Int)+1)).tdiv 2)=(k:Int):=by
  rw[wrap_i64 (n:=(a.length:Int)+1),Int.tdiv_eq_ediv_of_nonneg (by omega),wrap_i64];omega
 have w2:i64.wrap (2*(k:Int))=((2*k:Nat):Int):=by rw[wrap_i64];omega
 have Ev:xl=cDS xl.length 0:=by
  have:=M6.qV hd rfl hv;rw[M6.aPM]at this;exact this
 rw[w,w2,gP ⟨ha,by omega,by omega⟩];simp only[aI,cFM];have a0l:=M6.dS (cDX (M6.val a) (cEP (n:=k) (by omega:0<18446744073709551616)));have b0l:=M6.dS (cDX (M6.val b) (cEP (n:=k) (by omega:0<18446744073709551616)));have a1l:=M6.dS (Hq (k:=k) aPH);have b1l:=M6.dS (Hq (k:=k) bLA);have hA:=cMG (M6.val a) (18446744073709551616^k);have hB:=cMG (M6.val b) (18446744073709551616^k);have ea0:M6.val a%18446744073709551616^k<18446744073709551616^k:=cDX _ (dA);have eb0:M6.val b%18446744073709551616^k<18446744073709551616^k:=cDX _ (dA);have ea1:M6.val a/18446744073709551616^k<18446744073709551616^k:=cCM (Hq aPH) (M6.sH (by omega));have eb1:M6.val b/18446744073709551616^k<18446744073709551616^k:=cCM (Hq bLA) (M6.sH (by omega));generalize M6.val a%18446744073709551616^k=a0 at *;generalize M6.val a/18446744073709551616^k=a1 at *;generalize M6.val b%18446744073709551616^k=b0 at *;generalize M6.val b/18446744073709551616^k=b1 at *;have s6:a0+a1<18446744073709551616^(k+1):=by rw[cGO];omega
 have s7:b0+b1<18446744073709551616^(k+1):=by rw[cGO];omega
 have s6l:=M6.dS s6;have s7l:=M6.dS s7;have aGI:=bMG a0 a1 b0 b1 (18446744073709551616^k);rw[hA,hB]at aGI;have hmid:=bMF a0 a1 b0 b1;have s8:(a0+a1)*(b0+b1)<18446744073709551616^(2*(k+1)):=by
  rw[Nat.two_mul,cGP];exact cKD s6 s7
 have s8l:=M6.dS s8;have cAB:18446744073709551616^k*18446744073709551616^k=18446744073709551616^(2*k):=by rw[<-cGP,Nat.two_mul]
 rw[cAB]at aGI;have low:a0*b0<=(a0+a1)*(b0+b1):=by omega
 have bNT:=M6.qI low;have bMC:a1*b1<=(a0+a1)*(b0+b1):=by omega
 have bNS:=M6.qI bMC;rw[gP ⟨hb,by omega,by omega⟩,gP (hc _ _ (M6.aY _) (M6.aY _) (by omega)),gP (hc _ _ (M6.aY _) (M6.aY _) (by omega)),gP ⟨M6.aY _,M6.aY _,by omega,by omega⟩,gP ⟨M6.aY _,M6.aY _,by omega,by omega⟩];simp only[M6.bD];have f9:(a0+a1)*(b0+b1)-a0*b0<18446744073709551616^(M6.dg ((a0+a1)*(b0+b1))).length:=by
  have:=M6.qH (n:=(a0+a1)*(b0+b1));omega
 have cAP:=M6.jE f9;rw[gP (hc _ _ (M6.aY _) (M6.aY _) (by omega)),gP ⟨M6.gG _,by trivial,by trivial,M6.gG _,bNT,by omega,low⟩,cAP,M6.nF,
  gP ⟨M6.nG,by trivial,by trivial,M6.gG _,bNS,by omega,by omega⟩]
 have cAZ:(a0+a1)*(b0+b1)-a0*b0-a1*b1=a0*b1+a1*b0:=by omega
 rw[cAZ];have f10:a0*b1+a1*b0<18446744073709551616^(M6.dg ((a0+a1)*(b0+b1))).length:=by
  have:=M6.qH (n:=(a0+a1)*(b0+b1));omega
 have aCP:a0*b0<18446744073709551616^xl.length:=by omega
 have bST:=M6.dS aCP;have bHQ:cHK 0 xl ++ (cHK xl.length (M6.dg (a0*b0)) ++ cHL (0+min (M6.dg (a0*b0)).length xl.length) xl)=M6.rU xl.length (a0*b0):=by
  rw[List.take_zero,cFS,cIZ bST,cBR,cHV bST]
  conv=>lhs;rw[Ev,cPB]
  rfl
 rw[bHQ,if_pos ⟨by trivial,by omega⟩,gP ⟨M6.nG,by rw[M6.jE f10];omega⟩,M6.nF,M6.nF,M6.jE aCP];have bXS:(a0*b1+a1*b0)*18446744073709551616^k<18446744073709551616^xl.length:=by omega
 have bDV:=M6.dS (aFT (by omega) bXS);have bGG:a0*b0+(a0*b1+a1*b0)*18446744073709551616^k<18446744073709551616^xl.length:=by omega
 rw[gP ⟨M6.nG,by trivial,by trivial,M6.gG _,by omega,by omega,by omega,bGG⟩,M6.jE bGG,M6.nF];have bYM:a1*b1*18446744073709551616^(2*k)<18446744073709551616^xl.length:=by omega
 have bSW:=M6.dS (aFT (by omega) bYM);rw[gP ⟨M6.nG,by trivial,by trivial,M6.gG _,by omega,by omega,by omega,by rw[<-aGI];exact bIF⟩,<-aGI];rfl
def aJ:dJ:=orc3 (Ga gX .u64) (pI .u64) (pI .u64) sp
theorem fnok:nL prog E 266 f266 aE:=xQ tN mixed (nJ _ _ rfl rfl (nP rD.ok (nP Kg.ok zH)) (aA Ch.ok (aA bCV.ok (aA PSum.ok (aA oQ.aFR aC)))) (pJ)) func266 rfl rfl rfl rfl rfl
theorem ok:rZ prog base.glob 266 aJ:=fnok.xN rfl spec
end Lz
namespace Tj
def E:Env:={ ({ base with C:=tK [(264,Kh.aJ),(265,Jl.aJ),(266,Lz.aJ)] (callsOf []),ioF:=Qs [(264,Kh.aJ),(265,Jl.aJ),(266,Lz.aJ)],n0:=1,io:=[0] })with nt:=36,own:=[],keep:=fun k=>(tlook [] k).getD [],cut:=tlook [(3,[0,1,2])] }
def aE:=bd f260
theorem aT:Nk E aE:=nk
def J3(a:List Int)(b:Nat)(c:Nat) d f:=lK E f260 aE 3 [(A.any,some { e:=(22:Nat),cont:=rJ.ints u64 a }),(A.v (V.one (L.view 0 b c)),none),jK d,jK f]
theorem start al ao an b c:aF E f260 aE [D.io gX u64 al ao an,D.s (ints u64 b),D.s (ints u64 c)]=aB (decide ((b.length:Int)<(c.length:Int))) (Tj.J3 al ao an c b) (Tj.J3 al ao an b c):=eJ aT
theorem iB a b c d e:J3 a b c d e=letI B:=d.length+e.length;letI A:=some [D.io 22 u64 (M6.rU a.length (M6.val d*M6.val e)) 0 0];aB (decide ((e.length:Int)<(40:Int))) (aN (M6.cA a/\b=0/\c=a.length/\M6.cA d/\M6.cA e/\a.length=d.length+e.length/\a.length<=1099511627776/\M6.val a=0) A) (aB (decide (i64.wrap ((2:Int)*(e.length:Int))<=(d.length:Int))) (aN (M6.cA a/\b=0/\c=a.length/\M6.cN d/\M6.cN e/\a.length=d.length+e.length/\a.length<=549755813888/\M6.val a=0/\0<e.length/\(2:Nat)*e.length<=d.length/\oQ.less B) A) (aN (M6.cA a/\b=0/\c=a.length/\M6.cN d/\M6.cN e/\a.length=d.length+e.length/\a.length<=274877906944/\M6.val a=0/\4<=e.length/\e.length<=d.length/\oQ.less B) A)):=cJ aT
def sp(x:List Int×Nat×Nat)(a b:List Int):Prop×List D:=(M6.cA x.1/\x.2.1=0/\x.2.2=x.1.length/\M6.cN a/\M6.cN b/\x.1.length=a.length+b.length/\x.1.length<=274877906944/\M6.val x.1=0/\oQ.less (a.length+b.length),
 [.io gX .u64 (M6.rU x.1.length (M6.val a*M6.val b)) 0 0])
theorem J{z a b:List Int}(hd:M6.cA z)(ha:M6.cN a)(hb:M6.cN b)(hl:z.length=a.length+b.length)(hN:z.length<=274877906944)(hv:M6.val z=0)(hc:oQ.less (a.length+b.length))(aVB:b.length<=a.length) :
  J3 z 0 z.length a b=some [.io gX .u64 (M6.rU z.length (M6.val a*M6.val b)) 0 0]:=by
 have w:i64.wrap (2*(b.length:Int))=((2*b.length:Nat):Int):=by rw[wrap_i64];omega
 rw[iB,w]
 by_cases h1:b.length<40
 ·rw[aM,gP ⟨hd,rfl,rfl,ha.jA,hb.jA,hl,by omega,hv⟩]
 ·rw[aL]
  by_cases h2:2*b.length<=a.length
  ·rw[aM,gP ⟨hd,rfl,rfl,ha,hb,hl,by omega,hv,by omega,h2,hc⟩]
  ·rw[aL,gP ⟨hd,rfl,rfl,ha,hb,hl,by omega,hv,by omega,aVB,hc⟩]
theorem spec(x:List Int×Nat×Nat)(a b:List Int)(h:(sp x a b).1):aF E f260 aE [(Ga gX .u64).put x,(pI .u64).put a,(pI .u64).put b]=some (sp x a b).2/\∃rs oH,(sp x a b).2=rs ++ [.io gX .u64 oH 0 0]/\oH.length=x.1.length:=by
 obtain⟨xl,xo,xn⟩:=x;obtain⟨hd,ho,hn,ha,hb,hl,hN,hv,hc⟩:=h;simp only at hd ho hn hl hN hv;subst ho;subst hn;refine⟨(start xl 0 xl.length a b).trans ?_,[],_,rfl,M6.jE ?_⟩
 ·by_cases kD:a.length<b.length
  ·rw[aM,J hd hb ha (by omega) hN hv (by rw[cHQ];exact hc) (by omega),cGN];rfl
  ·rw[aL,J hd ha hb hl hN hv hc (by omega)];rfl
 ·show _<18446744073709551616^xl.length;rw[hl,cGP];exact cKD (M6.dT ha.jA) (M6.dT hb.jA)
def aJ:dJ:=orc3 (Ga gX .u64) (pI .u64) (pI .u64) sp
theorem fnok:nL prog E 260 f260 aE:=xQ tN mixed (nJ _ _ rfl rfl (nP Kh.ok (nP Jl.ok (nP Lz.ok zH))) aC (pJ)) func260 rfl rfl rfl rfl rfl
theorem ok:rZ prog base.glob 260 aJ:=fnok.xN rfl spec
end Tj
namespace Jk
def E:Env:={ ({ base with n0:=1,io:=[0] })with nt:=22,own:=[],keep:=fun k=>(tlook [(2,[0,3])] k).getD [],cut:=tlook [] }
def aE:=bd f261
theorem aT:Nk E aE:=nk
def L2(a:List Int)(b:Nat)(c:Nat) d:=qA E f261 aE 2 [(A.any,some { e:=(22:Nat),cont:=rJ.ints u64 a }),(A.v (V.one (L.view 0 b c)),none),bP d]
theorem start al ao an:aF E f261 aE [D.io gX u64 al ao an]=Jk.L2 al ao an (an:Int):=eJ aT
theorem mG a b c d:L2 a b c d=aB (decide (0<d)) (if 0<=i64.wrap (d-1)/\i64.wrap (d-1)<(c:Int)then aB (a.getD (b+(i64.wrap (d-1)).toNat) 0==(0:Int)) (Jk.L2 a b c (i64.wrap (d-1))) (if(0:Int)<=(0:Int)/\0<=d/\d<=d/\d<=(c:Int)then some [D.back 0 (b+0) (d.toNat-0),D.io 22 u64 a 0 0]else none)else none) (if(0:Int)<=(0:Int)/\0<=d/\d<=d/\d<=(c:Int)then some [D.back 0 (b+0) (d.toNat-0),D.io 22 u64 a 0 0]else none):=lJ aT
def sp(x:List Int×Nat×Nat):Prop×List D:=(M6.cA x.1/\x.2.1=0/\x.2.2=x.1.length/\x.1.length<=1099511627776,[.back 0 0 (M6.dg (M6.val x.1)).length,.io gX .u64 x.1 0 0])
theorem L{xs:List Int}(hd:M6.cA xs)(hl:xs.length<=4398046511104):∀n:Nat,n<=xs.length->L2 xs 0 xs.length n=some [.back 0 0 (M6.dg (M6.val (xs.take n))).length,.io gX .u64 xs 0 0]
 |0,h=>by
  rw[mG,aL,aR];simp[M6.val,M6.cD]
 |n+1,h=>by
  rw[mG];have e:i64.wrap (((n+1:Nat):Int)-1)=(n:Int):=by rw[wrap_i64];omega
  rw[e,aM,aR,cFM,cBR]
  by_cases hz:xs.getD n 0=0
  ·rw[bJ hz,L hd hl n (by omega),M6.mH (by omega),hz];simp
  ·rw[bB hz,aR,cFM];have:M6.cN (xs.take (n+1)):=M6.Bd (hd.take _) fun d hg=>by
    rw[M6.getLast_take (by omega)]at hg;cases hg;exact hz
   have hlen:(xs.take (n+1)).length=n+1:=by rw[cEF];omega
   rw[<-this,hlen];rfl
theorem spec(x:List Int×Nat×Nat)(h:(sp x).1):aF E f261 aE [(Ga gX .u64).put x]=some (sp x).2/\∃rs oH,(sp x).2=rs ++ [.io gX .u64 oH 0 0]/\oH.length=x.1.length:=by
 obtain⟨xl,xo,xn⟩:=x;obtain⟨hd,ho,hn,hl⟩:=h;simp only at hd ho hn hl;subst ho;subst hn;refine⟨(start xl 0 xl.length).trans ?_,[_],xl,rfl,rfl⟩;rw[L hd (by omega) xl.length (cBP _),cIK];rfl
def aJ:dJ:=orc1 (Ga gX .u64) sp
theorem fnok:nL prog E 261 f261 aE:=xQ tN mixed (nI _ rfl aC (pJ)) func261 rfl rfl rfl rfl rfl
theorem ok:rZ prog base.glob 261 aJ:=fnok.oU rfl spec
end Jk
namespace Pq
def E:Env:={ ({ base with C:=tK [(260,Tj.aJ),(261,Jk.aJ)] (callsOf []),ioF:=Qs [(260,Tj.aJ),(261,Jk.aJ)] })with nt:=18,own:=[17],keep:=fun k=>(tlook [] k).getD [],cut:=tlook [] }
def aE:=bd f253
theorem aT:Nk E aE:=nk
theorem start a b:aF E f253 aE [D.s (ints u64 a),D.s (ints u64 b)]=letI F:=(a.length:Int);letI G:=F+(b.length:Int);letI C:=i64.wrap G;letI A:=cDS C.toNat (0:Int);letI B:=M6.rU A.length (M6.val a*M6.val b);if 0<=i64.wrap G/\i64.wrap G<=i64.wrap G/\i64.wrap G<=8796093022208 then aN (M6.cA A/\(0:Nat)=(0:Nat)/\C.toNat=A.length/\M6.cN a/\M6.cN b/\A.length=a.length+b.length/\A.length<=274877906944/\M6.val A=0/\oQ.less (a.length+b.length)) (aN (M6.cA B/\(0:Nat)=(0:Nat)/\C.toNat=B.length/\B.length<=1099511627776) (some [D.own 22 u64 (cHK (M6.dg (M6.val B)).length B)]))else none:=eJ aT
theorem eval{a b:List Int}(ha:M6.cN a)(hb:M6.cN b)(hN:a.length+b.length<=274877906944)(hc:oQ.less (a.length+b.length)):aF E f253 aE [(pI .u64).put a,(pI .u64).put b]=some [.own gX .u64 (M6.dg (M6.val a*M6.val b))]:=by
 refine(start a b).trans ?_;have w:i64.wrap ((a.length:Int)+(b.length:Int))=((a.length+b.length:Nat):Int):=by rw[wrap_i64];omega
 have bIF:M6.val a*M6.val b<18446744073709551616^(a.length+b.length):=by rw[cGP];exact cKD (M6.dT ha.jA) (M6.dT hb.jA)
 rw[w,aR];simp only[cFM,cOY];rw[gP ⟨M6.jD _,by trivial,by trivial,ha,hb,by trivial,hN,M6.jB _,hc⟩,gP ⟨M6.nG,by trivial,(M6.jE bIF).symm,by rw[M6.jE bIF];omega⟩,M6.nF,M6.aPN]
theorem fnok:uU prog E 253 f253 aE:=aJB tN mixed (nJ _ _ rfl rfl (nP Tj.ok (nP Jk.ok zH)) aC (pJ)) func253 rfl rfl rfl
theorem all(n:Nat)(hn:n<=274877906944):oQ.less (n+1):=by
 induction n with
 |zero =>
  intro a b ha hb hl;refine fn_contract fnok.ty fnok.calls fnok.mix fnok.fnc fnok.body fnok.nt fnok.io (by exact cDN rfl) (eval ha hb (by omega) fun c d _ _ h=>by omega)
 |succ n ih =>
  intro a b ha hb hl;have ih:=ih (by omega);refine fn_contract fnok.ty fnok.calls fnok.mix fnok.fnc fnok.body fnok.nt fnok.io (by exact cDN rfl) (eval ha hb (by omega) fun c d hc hd h=>ih c d hc hd (by omega))
def sp(a b:List Int):Prop×List D:=(M6.cN a/\M6.cN b/\a.length+b.length<=274877906944,[.own gX .u64 (M6.dg (M6.val a*M6.val b))])
theorem spec:fN E f253 aE (pI .u64) (pI .u64) sp:=by
 rintro a b ⟨ha,hb,hN⟩;exact eval ha hb hN fun c d hc hd h=>all (a.length+b.length) hN c d hc hd (by omega)
def aJ:dJ:=orc2 (pI .u64) (pI .u64) sp
theorem ok:mM prog base.glob 253 aJ:=fnok.lD rfl spec
end Pq
namespace aRP
def E:=mE [(144,iI.aJ),(253,Pq.aJ),(252,oQ.aJ)] 20 [17] [] []
def aE:=bd f233
theorem aT:Nk E aE:=nk
theorem start a b:aF E f233 aE [D.s (ints u64 a),D.s (ints u64 b)]=letI A:=some [D.s (sc (slice none 0 0)),D.s (sc (int i64 2))];aN (a.length<=1099511627776) (aB (!iI.qJ a) A (aN (b.length<=1099511627776) (aB (!iI.qJ b) A (aN (M6.cN a/\M6.cN b/\a.length+b.length<=274877906944) (aD (M6.dg (M6.val a*M6.val b)) fun c=>aN True (aD (bif oQ.Mg c then c else []) fun d=>aD (bif oQ.Mg c then(0:Int)else(5:Int)) fun e=>some [D.s (ints u64 d),D.s (sc (int i64 e))])))))):=eJ aT
def sp(a b:List Int):Prop×List D:=(M6.cN a/\M6.cN b/\a.length<=8192/\b.length<=8192,[.s (.ints .u64 (bif dK.nS (M6.val a*M6.val b)then M6.dg (M6.val a*M6.val b)else [])),.s (.sc (.int .i64 (bif dK.nS (M6.val a*M6.val b)then 0 else 5)))])
theorem spec:fN E f233 aE (pI .u64) (pI .u64) sp:=by
 rintro a b ⟨ha,hb,h1,h2⟩;refine(start a b).trans ?_;simp only[aI];rw[gP,gP,iI.oW ha h1,iI.oW hb h2,cDP,bF,bF,gP ⟨ha,hb,by omega⟩,gP trivial];rfl
def aJ:dJ:=orc2 (pI .u64) (pI .u64) sp
theorem ok:OK 233 aJ:=(dY E aE (aA iI.ok (aA Pq.ok (aA oQ.ok aC))) func233).lD rfl spec
end aRP
namespace aKC
def E:=mE [(96,fW.aJ),(233,aRP.aJ),(99,Cm.aJ)] 35 [32] [(3,[2,3,4])] [3]
def aE:=bd f200
theorem aT:Nk E aE:=nk
def J3 a b c d e:=lK E f200 aE 3 [dR 0 27 [dG a,gM b],dR 1 27 [dG c,gM d],dR 2 27 [dG e,sc (slice none 0 0)]]
theorem start a b c d:aF E f200 aE [D.agg [sc (bool a),ints u64 b],D.agg [sc (bool c),ints u64 d]]=letI A:=some [D.agg [sc (bool false),sc (slice none 0 0)],D.s (sc (int i64 2))];aN (b.length<=1099511627776) (aB (!fW.oZ (a,b)) A (aN (d.length<=1099511627776) (aB (!fW.oZ (c,d)) A (aKC.J3 a b c d false)))):=eJ aT
theorem iB a b c d e:J3 a b c d e=letI F:=M6.val b*M6.val d;letI B:=bif dK.nS F then(0:Int)else(5:Int);letI A:=bif dK.nS F then M6.dg F else [];letI C:=bif B==0 then zs (a !=c) (M6.val A)else(0:Int);aN (M6.cN b/\M6.cN d/\b.length<=8192/\d.length<=8192) (aN (M6.cN A/\A.length<=1099511627776) (some [D.agg [sc (bool (isNeg C)),ints u64 (M6.dg C.natAbs)],D.s (sc (int i64 B))])):=cJ aT
def sp(x y:Bool×List Int):Prop×List D:=(iE x/\iE y,wE (fit (wv x*wv y).natAbs) (wv x*wv y))
theorem spec:fN E f200 aE pW pW sp:=by
 rintro x y ⟨hx,hy⟩;refine(start x.1 x.2 y.1 y.2).trans ?_;have l1:=hx.len;have l2:=hy.len;have f1:=fW.lY hx;have f2:=fW.lY hy;have hs:wv x*wv y=zs (x.1 !=y.1) (M6.val x.2*M6.val y.2):=by
  unfold wv zs;cases x.1 <;> cases y.1 <;> simp[cLF,Int.mul_neg]
 rw[gP,f1,cDP,bF,gP,f2,cDP,bF,iB,gP ⟨hx.1,hy.1,l1,l2⟩,gP (Lo (fun h=>by rw[show dK.nS _=_ from Db]at h;exact zI h)),Kw,show dK.nS _=_ from Db];unfold sp
 try dsimp only
 rw[hs,kS]
def aJ:dJ:=orc2 pW pW sp
theorem ok:OK 200 aJ:=(dY E aE (aA fW.ok (aA aRP.ok (aA Cm.ok aC))) func200).lD rfl spec
end aKC
namespace fA
def E:=mE [(45,mZ.aJ),(200,aKC.aJ),(50,kB.aJ)] 38 [22,35] [(3,[2,3,4])] [3]
def aE:=bd f155
theorem aT:Nk E aE:=nk
def J3 a b c d e f g h:=lK E f155 aE 3 [dR 0 29 [dG a,gM b,cF c],dR 1 29 [dG d,gM e,cF f],dR 2 29 [dG g,sc (slice none 0 0),cF h]]
theorem start a b c d e f:aF E f155 aE [D.agg [sc (bool a),ints u64 b,sc (int i64 c)],D.agg [sc (bool d),ints u64 e,sc (int i64 f)]]=aN (aU (a,b,c)) (aN (aU (d,e,f)) (fA.J3 a b c d e f false 0)):=eJ aT
theorem iB a b c d e f g h:J3 a b c d e f g h=letI F:=wv (a,b)*wv (d,e);letI C:=i64.wrap (c+f);letI B:=bif fit F.natAbs then wv (a,b)*wv (d,e)else(0:Int);aN (iE (a,b)/\iE (d,e)) (aD (isNeg B) fun i=>aD (M6.dg B.natAbs) fun j=>letI A:=bif iN (wv (i,j)) C then aQ (wv (i,j)) C else((0:Int),(0:Int));aD (bif fit F.natAbs then(0:Int)else(5:Int)) fun k=>aB (k !=0) (some [D.agg [sc (bool false),sc (slice none 0 0),sc (int i64 0)],D.s (sc (int i64 k))]) (aN (iE (i,j)/\(-9223372036854775808:Int)<=i64.wrap (c+f)/\i64.wrap (c+f)<9223372036854775808) (aD (isNeg A.fst) fun l=>aD (M6.dg A.fst.natAbs) fun m=>aD A.snd fun n=>aD (bif iN (wv (i,j)) C then(0:Int)else(5:Int)) fun o=>some [D.agg [sc (bool l),ints u64 m,sc (int i64 n)],D.s (sc (int i64 o))]))):=cJ aT
def mY(p q:Int×Int):Bool:=fit (p.1*q.1).natAbs&&iN (p.1*q.1) (p.2+q.2)
def gZ(p q:Int×Int):Int×Int:=aQ (p.1*q.1) (p.2+q.2)
def sp(x y:gW):Prop×List D:=(aU x/\aU y,dE (mY (dv x) (dv y)) (gZ (dv x) (dv y)))
theorem spec:Ro E f155 aE kA kA sp:=by
 rintro x y ⟨hx,hy⟩;have ex:=hx.2.1;have ey:=hy.2.1;have s:=start x.1 x.2.1 x.2.2 y.1 y.2.1 y.2.2;have w:i64.wrap (x.2.2+y.2.2)=x.2.2+y.2.2:=wrap_i64;rw[gP hx,gP hy,iB]at s;simp only[aI]at s;have hz:wv (x.1,x.2.1)*wv (y.1,y.2.1)=(dv x).1*(dv y).1:=rfl;rw[gP ⟨hx.Fp,hy.Fp⟩,hz]at s;have h2:x.2.2+y.2.2=(dv x).2+(dv y).2:=rfl;unfold sp mY gZ
 try dsimp only
 cases hf:fit ((dv x).1*(dv y).1).natAbs with
 |false =>
  rw[hf]at s;rw[Bool.false_and];refine⟨_,s,kB.uL _⟩
 |true =>
  rw[hf,cond_true,cond_true,gR rfl,w,gP ⟨gL (zI hf),by omega,by omega⟩,oI,h2]at s;rw[cER];exact⟨_,s,iX.refl _⟩
def aJ:dJ:=orc2 kA kA sp
theorem ok:OK 155 aJ:=(dY E aE (aA mZ.ok (aA aKC.ok (aA kB.ok aC))) func155).aSE rfl spec
end fA
namespace Cs
def E:=mE [] 9 [] [] []
def aE:=bd f239
theorem aT:Nk E aE:=nk
theorem start a:aF E f239 aE [D.s (sc (int i64 a))]=aB (decide (1<=a)) (some [D.s (sc (bool (decide (a<=70000))))]) (some [D.s (sc (bool false))]):=eJ aT
def sp(p:Int):Prop×List D:=(True,[.s (.sc (.bool (decide (1<=p)&&decide (p<=70000))))])
theorem spec:iS E f239 aE (pN .i64) sp:=by
 intro p h;refine(start p).trans ?_;unfold sp aB;cases (decide ((1:Int)<=p)) <;> cases (decide (p<=(70000:Int))) <;> rfl
def aJ:dJ:=orc1 (pN .i64) sp
theorem ok:OK 239 aJ:=(dY E aE aC func239).oU rfl spec
end Cs
namespace cU
def E:=mE [(239,Cs.aJ),(45,mZ.aJ),(46,nM.aJ),(106,uB.aJ),(98,lN.aJ),(151,Cg.aJ),(95,pQ.aJ),(100,wF.aJ),(240,cX.aJ)] 122 [119] [(9,[2,3,4,5,8]),(15,[2,3,4,5,8,10,13]),(16,[2,3,4,5,8,10,16])] [9,15,16]
def aE:=bd f210
theorem aT:Nk E aE:=nk
def J9 a b c d e f g h i j:=lK E f210 aE 9 [bP a,sE b,dR 2 29 [dG c,gM d,cF e],dR 3 29 [dG f,gM g,cF h],dR 4 29 [dG i,sc (slice none 0 0),cF j]]
def aLB a b c d e f g h i j k l:=lK E f210 aE 15 [bP a,sE b,dR 2 29 [dG c,gM d,cF e],dR 3 29 [dG f,gM g,cF h],dR 4 29 [dG i,sc (slice none 0 0),cF j],bP k,jK l]
def aEB a b c d e f g h i j k l m:=lK E f210 aE 16 [bP a,sE b,dR 2 29 [dG c,gM d,cF e],dR 3 29 [dG f,gM g,cF h],dR 4 29 [dG i,sc (slice none 0 0),cF j],bP k,dR 6 27 [dG l,gM m]]
theorem start a b e f g h c d:aF E f210 aE [D.agg [sc (bool a),ints u64 b,sc (int i64 e)],D.agg [sc (bool f),ints u64 g,sc (int i64 h)],D.s (sc (int i64 c)),D.s (sc (bool d))]=letI F:=int i64 0;letI C:=bool false;letI B:=slice none 0 0;letI A:=some [D.agg [sc C,sc B,sc F],D.s (sc (int i64 5))];aN True (aD (decide (1<=c)&&decide (c<=70000)) fun i=>aB (!i) (some [D.agg [sc C,sc B,sc F],D.s (sc (int i64 1))]) (aN (aU (a,b,e)) (aN (aU (f,g,h)) (aN True (aD ((g.length:Int)==(0:Int)) fun j=>aB j (some [D.agg [sc C,sc B,sc F],D.s (sc (int i64 4))]) (aB (decide (4096<(b.length:Int))) A (aB (decide (4096<(g.length:Int))) A (cU.J9 c d a b e f g h false 0)))))))):=eJ aT
theorem aAS a b c d e f g h i j:J9 a b c d e f g h i j=letI A:=i64.wrap (i64.wrap (a+2)+(↑(bl (M6.val g)):Int))-(↑(bl (M6.val d)):Int);aN (M6.cA g/\g.length<=1099511627776) (aN (M6.cA d/\d.length<=1099511627776) (aN (M6.cN d/\d.length<=8192/\(0<=if i64.wrap A>(0:Int)then i64.wrap A else(0:Int))/\(if i64.wrap A>(0:Int)then i64.wrap A else(0:Int))<4611686018427387904) (aD (bif lN.kR (M6.val d) (if i64.wrap A>(0:Int)then i64.wrap A else(0:Int)).toNat then M6.dg (M6.val d*(2:Nat)^(if i64.wrap A>(0:Int)then i64.wrap A else(0:Int)).toNat)else []) fun k=>aN (M6.cN k/\k.length<=8192/\M6.cN g/\1<=g.length/\g.length<=8192) (aD (M6.dg (M6.val k/M6.val g)) fun l=>aD (M6.dg (M6.val k%M6.val g)) fun m=>aN (M6.cN l/\l.length<=8192/\(0:Int)<=(1:Int)/\(1:Int)<(4611686018427387904:Int)) (aD (bif lN.kR (M6.val l) 1 then M6.dg (M6.val l*2)else []) fun n=>letI B:=M6.val n+M6.val (M6.dg 1);aB (decide (0<(m.length:Int))) (aN ((0:Int)<=(1:Int)/\(1:Int)<(18446744073709551616:Int)) (aN (M6.cN n/\M6.cN (M6.dg 1)/\n.length<=8192/\(M6.dg 1).length<=8192) (aD (bif dK.nS B then M6.dg B else []) fun o=>cU.aLB a b c d e f g h i j (if i64.wrap A>(0:Int)then i64.wrap A else(0:Int)) o))) (cU.aLB a b c d e f g h i j (if i64.wrap A>(0:Int)then i64.wrap A else(0:Int)) n)))))):=cJ aT
theorem Py a b c d e f g h i j k l:aLB a b c d e f g h i j k l=aB (c !=f) (cU.aEB a b c d e f g h i j k (decide (0<(l.length:Int))) l) (cU.aEB a b c d e f g h i j k false l):=cJ aT
theorem Cq a b c d e f g h i j k l m:aEB a b c d e f g h i j k l m=letI C:=i64.wrap (i64.wrap (e-h)-k)-1;letI A:=cX.oY b (wv (l,m)) (i64.wrap C) a;letI B:=bif iN A.fst A.snd then aQ A.fst A.snd else((0:Int),(0:Int));aN (iE (l,m)/\((-4611686018427387904:Int)<=i64.wrap C/\i64.wrap C<4611686018427387904)/\1<=a/\a<=70000) (aD (isNeg B.fst) fun n=>aD (M6.dg B.fst.natAbs) fun o=>aD B.snd fun p=>aD (bif iN A.fst A.snd then(0:Int)else(5:Int)) fun q=>some [D.agg [sc (bool n),ints u64 o,sc (int i64 p)],D.s (sc (int i64 q))]):=cJ aT
def Dy(p:Int)(a b:Nat):Nat:=(p+2+(bl b:Nat)-(bl a:Nat)).toNat
def Yb(a b s:Nat):Nat:=a*2^s/b*2+if a*2^s%b=0 then 0 else 1
def bFE(p:Int)(x y:Int×Int):Int×Int:=(zs (isNeg x.1 !=isNeg y.1) (Yb x.1.natAbs y.1.natAbs (Dy p x.1.natAbs y.1.natAbs)),x.2-y.2-(Dy p x.1.natAbs y.1.natAbs:Nat)-1)
def wL(up:Bool)(p:Int)(x y:Int×Int):Int×Int:=cX.oY up (bFE p x y).1 (bFE p x y).2 p
def sp(x y:gW)(p:Int)(up:Bool):Prop×List D:=(aU x/\aU y/\(dv y).1≠0/\x.2.1.length<=4096/\y.2.1.length<=4096/\1<=p/\p<=70000,dE (iN (wL up p (dv x) (dv y)).1 (wL up p (dv x) (dv y)).2) (aQ (wL up p (dv x) (dv y)).1 (wL up p (dv x) (dv y)).2))
theorem aSU(n:Bool)(q:Nat):wv (n&&decide (0<((M6.dg q).length:Int)),M6.dg q)=zs n q/\(bl q<=524288->iE (n&&decide (0<((M6.dg q).length:Int)),M6.dg q)):=by
 have hz:=M6.gJ (n:=q)
 by_cases h:q=0
 ·rw[decide_eq_false (by have:=hz.2 h;omega),Bool.and_false,h];refine⟨?_,fun _=>⟨M6.aY _,fun hf=>absurd hf (by simp),by rw[M6.cD];simp⟩⟩;unfold wv zs;rw[M6.bD];cases n <;> rfl
 ·rw[decide_eq_true (by have:=fun hl=>h (hz.1 hl);omega),Bool.and_true];refine⟨?_,fun hb=>⟨M6.aY _,fun _=>by rw[M6.bD];exact h,gA (k:=8192) (by omega)⟩⟩;unfold wv;rw[M6.bD]
theorem wS{a s n:Nat}(h:a≠0->bl a+s<=n):bl (a*2^s)<=n:=by
 by_cases h0:a=0
 ·subst h0;rw[Nat.zero_mul];exact cCL (by decide) (cHS n)
 ·rw[cGN,zP h0];have:=h h0;omega
theorem spec:Rp E f210 aE kA kA (pN .i64) pB sp:=by
 rintro x y p up ⟨hx,hy,h0,bXU,bNV,Ao,wZ⟩;have ex:=hx.2.1;have ey:=hy.2.1;refine(start x.1 x.2.1 x.2.2 y.1 y.2.1 y.2.2 p up).trans ?_;have hv0:M6.val y.2.1≠0:=fun h=>h0 (Fo.2 h)
 have bDX:y.2.1.length≠0:=fun h=>hv0 ((M6.cZ hy.Kl).1 h)
 have bx:=zQ hx.Kl.jA bXU;have cBE:=zQ hy.Kl.jA bNV
 have ax:(dv x).1.natAbs=M6.val x.2.1:=iY (x.1,x.2.1);have ay:(dv y).1.natAbs=M6.val y.2.1:=iY (y.1,y.2.1);have sx:isNeg (dv x).1=x.1:=hx.Fp.cells.1;have sy:isNeg (dv y).1=y.1:=hy.Fp.cells.1;have w1:i64.wrap (i64.wrap (i64.wrap (p+2)+(bl (M6.val y.2.1):Int))-(bl (M6.val x.2.1):Int))=p+2+(bl (M6.val y.2.1):Int)-(bl (M6.val x.2.1):Int):=by
  rw[wrap_i64 (n:=p+2),wrap_i64 (n:=p+2+(bl (M6.val y.2.1):Int)) (by omega) (by omega),wrap_i64]
 simp only[aI];rw[gP trivial,decide_eq_true Ao,decide_eq_true wZ,cER,cDP,bF,gP hx,gP hy,gP trivial,bB,aL,aL,aAS,w1];unfold sp wL bFE
 try dsimp only
 rw[ax,ay,sx,sy];have hs:(if p+2+(bl (M6.val y.2.1):Int)-(bl (M6.val x.2.1):Int)>0 then p+2+(bl (M6.val y.2.1):Int)-(bl (M6.val x.2.1):Int)else 0)=((Dy p (M6.val x.2.1) (M6.val y.2.1):Nat):Int):=by
  unfold Dy;split <;> omega
 rw[hs];have bXB:M6.val x.2.1≠0->bl (M6.val x.2.1)+Dy p (M6.val x.2.1) (M6.val y.2.1)<=332200:=fun _=>by unfold Dy;omega
 have bNC:Dy p (M6.val x.2.1) (M6.val y.2.1)<=332200:=by unfold Dy;omega
 generalize Dy p (M6.val x.2.1) (M6.val y.2.1)=s at *;have xP:=wS bXB;have hX:lN.kR (M6.val x.2.1) s=true:=by rw[Cn.Kz];exact decide_eq_true (by omega)
 have lX:=gA (n:=M6.val x.2.1*2^s) (k:=8192) (by omega);have Qi:bl (M6.val x.2.1*2^s/M6.val y.2.1)<=332200:=cCL (gF (cKC _ _)) xP;have lQ:=gA (n:=M6.val x.2.1*2^s/M6.val y.2.1) (k:=8192) (by omega);have hQ:∀q,bl q<=332200->lN.kR q 1=true:=fun q hq=>by rw[Cn.Kz];exact decide_eq_true (by have:=wS (a:=q) (s:=1) (n:=332201) (fun _=>by omega);omega)
 rw[gP ⟨hy.Kl.jA,by omega⟩,gP ⟨hx.Kl.jA,by omega⟩,gP ⟨hx.Kl,hx.len,by omega,by omega⟩,cFM];simp only[aI];rw[hX,cond_true,gP ⟨M6.aY _,lX,hy.Kl,by omega,hy.len⟩,M6.bD,gP ⟨M6.aY _,lQ,by omega,by omega⟩,M6.bD];have bXC:decide (0<(((M6.dg (M6.val x.2.1*2^s%M6.val y.2.1)).length:Nat):Int))=decide (M6.val x.2.1*2^s%M6.val y.2.1≠0):=by
  have:=M6.gJ (n:=M6.val x.2.1*2^s%M6.val y.2.1)
  by_cases h:M6.val x.2.1*2^s%M6.val y.2.1=0
  ·rw[decide_eq_false (by have:=this.2 h;omega),decide_eq_false (by omega)]
  ·rw[decide_eq_true (by have:=fun hl=>h (this.1 hl);omega),decide_eq_true h]
 rw[bXC];have j16:∀(bLE:Bool) (q:Nat),bl q<=332202->wv (bLE,M6.dg q)=zs (x.1 !=y.1) q->iE (bLE,M6.dg q)->aEB p up x.1 x.2.1 x.2.2 y.1 y.2.1 y.2.2 false 0 s bLE (M6.dg q)=some (dE (iN (cX.oY up (zs (x.1 !=y.1) q) (x.2.2-y.2.2-(s:Int)-1) p).1 (cX.oY up (zs (x.1 !=y.1) q) (x.2.2-y.2.2-(s:Int)-1) p).2) (aQ (cX.oY up (zs (x.1 !=y.1) q) (x.2.2-y.2.2-(s:Int)-1) p).1 (cX.oY up (zs (x.1 !=y.1) q) (x.2.2-y.2.2-(s:Int)-1) p).2)):=by
  intro bLE q hq hw Qj;have w2:i64.wrap (i64.wrap (i64.wrap (x.2.2-y.2.2)-(s:Int))-1)=x.2.2-y.2.2-(s:Int)-1:=by
   rw[wrap_i64 (n:=x.2.2-y.2.2),wrap_i64 (n:=x.2.2-y.2.2-(s:Int)),wrap_i64]
  rw[Cq,w2,gP ⟨Qj,⟨by omega,by omega⟩,Ao,wZ⟩,hw];simp only[aI];rfl
 have j15:∀q,bl q<=332202->aLB p up x.1 x.2.1 x.2.2 y.1 y.2.1 y.2.2 false 0 s (M6.dg q)=some (dE (iN (cX.oY up (zs (x.1 !=y.1) q) (x.2.2-y.2.2-(s:Int)-1) p).1 (cX.oY up (zs (x.1 !=y.1) q) (x.2.2-y.2.2-(s:Int)-1) p).2) (aQ (cX.oY up (zs (x.1 !=y.1) q) (x.2.2-y.2.2-(s:Int)-1) p).1 (cX.oY up (zs (x.1 !=y.1) q) (x.2.2-y.2.2-(s:Int)-1) p).2)):=by
  intro q hq;obtain⟨v1,v2⟩:=aSU (x.1 !=y.1) q;have v2:=v2 (by omega);rw[Py];cases hn:x.1 !=y.1 with
  |true =>
   rw[hn]at v1 v2;rw[bT];have:=j16 _ q hq (by rw[hn];exact v1) v2;rw[hn]at this;exact this
  |false =>
   rw[hn]at v1 v2;rw[bF];have:=j16 _ q hq (by rw[hn];exact v1) v2;rw[hn]at this;exact this
 unfold Yb;generalize M6.val x.2.1*2^s/M6.val y.2.1=Q at *;have bZX:bl (Q*2)<=332201:=wS (s:=1) (fun _=>by omega);have bWA:=gA (n:=Q*2) (k:=8192) (by omega);have bZW:bl (Q*2+1)<=332202:=by
  rw[dP]at bZX ⊢;rw[cGO];have:=cEP (n:=332201) (show 0<2 by omega);omega
 have one:=gA (n:=1) (k:=1) (dP.2 (by omega))
 by_cases hr:M6.val x.2.1*2^s%M6.val y.2.1=0
 ·rw[aL,if_pos hr,hQ _ Qi,cond_true,j15 _ (by omega)];rfl
 ·have bVN:dK.nS (Q*2+1)=true:=by rw[show dK.nS _=_ from Db];exact decide_eq_true (by omega)
  rw[aM,if_neg hr,hQ _ Qi,cond_true,gP ⟨by omega,by omega⟩,gP ⟨M6.aY _,M6.aY _,bWA,by omega⟩,M6.bD,M6.bD,bVN,cond_true,j15 _ bZW];rfl
def aJ:dJ:=orc4 kA kA (pN .i64) pB sp
theorem ok:OK 210 aJ:=(dY E aE (aA Cs.ok (aA mZ.ok (aA nM.ok (aA uB.ok (aA lN.ok (aA Cg.ok (aA pQ.ok (aA wF.ok (aA cX.ok aC))))))))) func210).aSJ rfl spec
end cU
end W
namespace M
open Go AI W
def shD(up:Bool)(p:Int×Int)(n:Int):Int×Int:=aQ (cX.oY up p.1 p.2 n).1 (cX.oY up p.1 p.2 n).2
def yQ(up:Bool)(p:Int×Int)(n:Int):Bool:=iN (cX.oY up p.1 p.2 n).1 (cX.oY up p.1 p.2 n).2
theorem Ox{z:Int}{k:Nat}:((z/((2^k:Nat):Int):Int):Rat)*((2^k:Nat):Rat)<=(z:Rat)/\(z:Rat)<(((z/((2^k:Nat):Int):Int):Rat)+1)*((2^k:Nat):Rat):=by
 have hp:(0:Int)<((2^k:Nat):Int):=by have:=cEP (n:=k) (show 0<2 by omega);omega
 have h1:=Int.ediv_mul_le z (show((2^k:Nat):Int)≠0 by omega);have h2:=Int.lt_ediv_add_one_mul_self z hp;constructor
 ·have:(((z/((2^k:Nat):Int))*((2^k:Nat):Int):Int):Rat)<=(z:Rat):=Rat.intCast_le_intCast.2 h1;rwa [cNA,cNB]at this
 ·have:(z:Rat)<(((z/((2^k:Nat):Int)+1)*((2^k:Nat):Int):Int):Rat):=Rat.intCast_lt_intCast.2 h2;rwa [cNA,cNB,cOP]at this
theorem aHA(up:Bool)(z:Int)(k:Nat):(up=false->(lH.qW up z k:Rat)*((2^k:Nat):Rat)<=(z:Rat)/\(z:Rat)<(lH.qW up z k:Rat)*((2^k:Nat):Rat)+((2^k:Nat):Rat))/\(up=true->(z:Rat)<=(lH.qW up z k:Rat)*((2^k:Nat):Rat)/\(lH.qW up z k:Rat)*((2^k:Nat):Rat)<(z:Rat)+((2^k:Nat):Rat)):=by
 constructor
 ·rintro rfl;obtain⟨h1,h2⟩:=Ox (z:=z) (k:=k);unfold lH.qW;rw[cond_false];generalize ((z/((2^k:Nat):Int):Int):Rat)=q at *;constructor <;> grind
 ·rintro rfl;obtain⟨h1,h2⟩:=Ox (z:=-z) (k:=k);unfold lH.qW;rw[cond_true,cOO];rw[cOO]at h1 h2;generalize ((-z/((2^k:Nat):Int):Int):Rat)=q at *;constructor <;> grind
theorem pZ{p:Int×Int}(h:p.1≠0):R.pz (bA p)<=R.ab (R.qz p)/\R.ab (R.qz p)<R.pz (bA p+1):=by
 have hb:=qZ (n:=p.1.natAbs) (by omega);have h1:2^(bl p.1.natAbs-1)<=p.1.natAbs:=sQ.1 (by omega);have h2:=wM p.1.natAbs;have e:R.ab (R.qz p)=(p.1.natAbs:Rat)*R.pz p.2:=by
  unfold R.qz;rw[R.fX,R.bS (cGW (R.dU p.2))];congr 1;unfold R.ab
  by_cases hz:0<=p.1
  ·rw[if_pos (by exact_mod_cast hz),<-cNB];congr 1;omega
  ·rw[if_neg (by intro hc;exact hz (by exact_mod_cast hc)),<-cNB,<-cOO];congr 1;omega
 have hp:=R.dU p.2;rw[e];unfold bA;constructor
 ·rw[show p.2+(bl p.1.natAbs:Int)-1=p.2+((bl p.1.natAbs-1:Nat):Int) by omega,R.eN];have aBC:((2^(bl p.1.natAbs-1):Nat):Rat)<=(p.1.natAbs:Rat):=by exact_mod_cast h1
  have:=R.aG (cGW hp) (show 0<=(p.1.natAbs:Rat)-((2^(bl p.1.natAbs-1):Nat):Rat) by grind);grind
 ·rw[show p.2+(bl p.1.natAbs:Int)-1+1=p.2+(bl p.1.natAbs:Int) by omega,R.eN];have aVG:(p.1.natAbs:Rat)<((2^bl p.1.natAbs:Nat):Rat):=by exact_mod_cast h2
  have:=cHI hp (show 0<((2^bl p.1.natAbs:Nat):Rat)-(p.1.natAbs:Rat) by grind);grind
theorem Hu(up:Bool)(p:Int×Int){n:Int}(aCN:1<=n):(up=false->R.qz (shD up p n)<=R.qz p/\R.qz p<=R.qz (shD up p n)+R.pz (1-n)*R.ab (R.qz p))/\(up=true->R.qz p<=R.qz (shD up p n)/\R.qz (shD up p n)<=R.qz p+R.pz (1-n)*R.ab (R.qz p)):=by
 have h0:0<=R.pz (1-n)*R.ab (R.qz p):=R.aG (cGW (R.dU _)) (R.aO _);unfold shD cX.oY;split
 ·have e:R.qz (aQ p.1 p.2)=R.qz p:=pD p.1 p.2;dsimp only;rw[e];constructor <;> (intro _;constructor <;> grind)
 ·rename_i hn;obtain⟨k,hk⟩:=cGR (show 0<=(bl p.1.natAbs:Int)-n by omega);have aCM:p.1≠0:=by
   intro hz;rw[hz]at hn;have hb:bl (0:Int).natAbs=0:=rfl;rw[hb]at hn;omega
  obtain⟨c1,c2⟩:=aHA up p.1 k;dsimp only;rw[hk,cFM,pD,R.eN];have pE:=R.dU p.2;have ht:=(pZ aCM).1;have e2:R.pz p.2*((2^k:Nat):Rat)<=R.pz (1-n)*R.ab (R.qz p):=by
   have e3:R.pz p.2*((2^k:Nat):Rat)=R.pz (1-n)*R.pz (bA p):=by
    rw[<-R.eN,<-R.jQ];congr 1;unfold bA;omega
   rw[e3];have:=R.aG (cGW (R.dU (1-n))) (show 0<=R.ab (R.qz p)-R.pz (bA p) by grind);grind
  have eq:R.qz p=(p.1:Rat)*R.pz p.2:=rfl;generalize R.pz (1-n)*R.ab (R.qz p)=X at *;rw[eq];generalize (lH.qW up p.1 k:Rat)=c at *;generalize ((2^k:Nat):Rat)=K at *;constructor
  ·intro hu;obtain⟨d1,d2⟩:=c1 hu;have m1:=R.aG (cGW pE) (show 0<=(p.1:Rat)-c*K by grind);have m2:=R.aG (cGW pE) (show 0<=c*K+K-(p.1:Rat) by grind);constructor <;> grind
  ·intro hu;obtain⟨d1,d2⟩:=c2 hu;have m1:=R.aG (cGW pE) (show 0<=c*K-(p.1:Rat) by grind);have m2:=R.aG (cGW pE) (show 0<=(p.1:Rat)+K-c*K by grind);constructor <;> grind
theorem aQZ(n:Nat):bl (2^n)=n+1:=by
 have h1:=dP (n:=2^n) (k:=n+1);have h2:=sQ (n:=2^n) (k:=n);have:2^n<2^(n+1):=cII (by omega) (by omega);have:=h1.2 this;have:=h2.2 (cBP _);omega
theorem xE(z e:Int):bl (aQ z e).1.natAbs<=bl z.natAbs:=gF (Gf z e)
theorem aDD(up:Bool)(z:Int)(k n:Nat)(h:bl z.natAbs<=n+k):bl (lH.qW up z k).natAbs<=n+1:=by
 have hz:=dP.1 h;rw[cGP]at hz;have hp:=cEP (n:=k) (show 0<2 by omega);have hn:=cEP (n:=n) (show 0<2 by omega);refine dP.2 ?_;rw[cGO];have fl:∀w:Int,w.natAbs<2^n*2^k->(w/((2^k:Nat):Int)).natAbs<=2^n:=by
  intro w hw;have h1:=cKS w ((2^k:Nat):Int);have h2:=cKT w (show((2^k:Nat):Int)≠0 by omega);have h3:=cKU w (show(0:Int)<((2^k:Nat):Int) by omega);have aXO:(w.natAbs:Int)<((2^n:Nat):Int)*((2^k:Nat):Int):=by exact_mod_cast hw
  generalize w/((2^k:Nat):Int)=q at *;generalize ((2^k:Nat):Int)=K at *;generalize hN:2^n=N at *
  by_cases hq:0<=q
  ·have:q<(N:Int):=by
    refine Int.not_le.1 fun hc=>?_
    have:=cQB hc (show 0<=K by omega);rw[cJO K (N:Int)]at this;omega
   omega
  ·have:-(N:Int)<=q:=by
    refine Int.not_lt.1 fun hc=>?_
    have:=cQB (show q<=-(N:Int)-1 by omega) (show 0<=K by omega);rw[Int.mul_sub,Int.mul_neg,Int.mul_one,cJO K (N:Int)]at this;omega
   omega
 unfold lH.qW;cases up with
 |false =>
  rw[cond_false];have:=fl z hz;omega
 |true =>
  rw[cond_true,cIJ];have:=fl (-z) (by rw[cIJ];exact hz);omega
def bLF(p:Int×Int):Prop:=kQ p/\p.2+(bl p.1.natAbs:Nat)<=1048000
theorem Rz{up:Bool}{p:Int×Int}{n:Int}(hp:bLF p)(hn:1<=n):yQ up p n=true/\kQ (shD up p n):=by
 obtain⟨⟨h1,h2,h3,h4⟩,h5⟩:=hp;unfold yQ shD cX.oY;split
 ·dsimp only;have hi:iN p.1 p.2=true:=by
   unfold iN
   by_cases hz:p.1=0
   ·rw[decide_eq_true hz,cGZ]
   ·have ht:=Aq (n:=p.1.natAbs) (by have:=h4 hz;omega);rw[ht,decide_eq_false hz,cDQ,decide_eq_true (show -1048576<=p.2+((0:Nat):Int) by omega),decide_eq_true (show p.2+((0:Nat):Int)<=1048576 by omega)];rfl
  exact⟨hi,iF hi h1⟩
 ·rename_i hk;dsimp only;have hc:=lH.aHB up p.1 ((bl p.1.natAbs:Int)-n).toNat;have bTA:=aDD up p.1 ((bl p.1.natAbs:Int)-n).toNat n.toNat (by omega);generalize lH.qW up p.1 ((bl p.1.natAbs:Int)-n).toNat=c at *;have bZD:bl c.natAbs<=bl p.1.natAbs:=gF hc;have bOS:c≠0->tz c.natAbs<bl c.natAbs:=fun h=>Dw (by omega)
  have hi:iN c (p.2+((bl p.1.natAbs:Int)-n))=true:=by
   unfold iN
   by_cases hz:c=0
   ·rw[decide_eq_true hz,cGZ]
   ·have:=bOS hz;rw[decide_eq_false hz,cDQ,decide_eq_true (show -1048576<=p.2+((bl p.1.natAbs:Int)-n)+(tz c.natAbs:Int) by omega),decide_eq_true (show p.2+((bl p.1.natAbs:Int)-n)+(tz c.natAbs:Int)<=1048576 by omega)];rfl
  exact⟨hi,iF hi (cCL bZD h1)⟩
end M
namespace M
open Go AI W
theorem Uf{p q:Int×Int}(hp:kQ p)(hq:kQ q)(h:bV.kY p q=true):kQ (bV.oP p q):=by
 unfold bV.oP;split
 ·exact hq
 ·split
  ·exact hp
  ·rename_i h1 h2;unfold bV.kY at h;rw[decide_eq_false h1,decide_eq_false h2,cDQ,cDQ,cBV,cBV,cBV]at h;exact iF h.2.2.2 (of_decide_eq_true h.2.2.1)
theorem kQ.top{p:Int×Int}(h:kQ p):-1048577<=bA p/\bA p<=1572864:=by
 obtain⟨h1,h2,_⟩:=h;unfold bA;omega
def aKI(p:Int×Int):Int×Int:=((p.1.natAbs:Nat),1-(bl p.1.natAbs:Nat))
theorem aNC{p:Int×Int}(h:kQ p)(h0:p.1≠0):kQ (aKI p):=by
 obtain⟨h1,h2,h3,h4⟩:=h;have:=h4 h0;unfold aKI;refine⟨by dsimp only;rw[cHH];exact h1,by dsimp only;omega,fun h=>by dsimp only at h;omega,fun _=>by dsimp only;omega⟩
theorem Gs{p q:Int×Int}:eZ p q=0↔R.qz p=R.qz q:=by
 obtain⟨h1,h2⟩:=Lx p q;have a:=R.Ya (p:=p) (q:=q) h1 h2;have b:=R.Ya (p:=q) (q:=p) h2 h1;unfold eZ;rw[aWA];constructor
 ·intro h;exact cPY (a.2 (Int.le_of_eq h)) (b.2 (Int.le_of_eq h.symm))
 ·intro h;exact Int.le_antisymm (a.1 (by rw[h];exact cID)) (b.1 (by rw[h];exact cID))
theorem Dh{p q:Int×Int}:eZ p q<0↔R.qz p<R.qz q:=by
 have h1:=mD (p:=p) (q:=q);have h3:=Gs (p:=p) (q:=q);constructor
 ·intro h;have:=h1.1 (by omega);refine Rat.not_le.1 fun hn=>?_
  have:=h3.2 (cPY this hn);omega
 ·intro h;have a:=h1.2 (cGW h);have b:eZ p q≠0:=fun hn=>Rat.lt_irrefl ((h3.1 hn)▸h)
  omega
theorem aMJ{p q:Int×Int}(h:eZ p q≠0):(bV.oP q (-p.1,p.2)).1≠0:=by
 intro h0;have h1:=Ud q (-p.1,p.2);rw[nV,R.pV h0]at h1;exact h (Gs.2 (by grind))
theorem Cu{p:Int×Int}(h:p.1=0):eZ p (0,0)=0:=by
 rw[Gs,R.pV h,R.pV rfl]
theorem kQ.Ie{p:Int×Int}(h:kQ p):kQ (-p.1,p.2):=by
 obtain⟨x1,x2,x3,x4⟩:=h;exact⟨by dsimp only;rw[cIJ];exact x1,x2,fun h=>x3 (by dsimp only at h;omega),fun h=>by dsimp only at h ⊢;have:=x4 (by omega);omega⟩
theorem aU.Bk{x:gW}(h:aU x)(hb:bl (dv x).1.natAbs<=262144):x.2.1.length<=4096:=by
 have e:M6.dg (dv x).1.natAbs=x.2.1:=h.Fp.cells.2;rw[<-e];exact gA (k:=4096) (by omega)
def Nm(p q:Int×Int):Int×Int:=bif decide (eZ q p<0)then q else p
def Oi(p q:Int×Int):Int×Int:=bif decide (0<eZ q p)then q else p
theorem aZU(p q:Int×Int):Nm p q=p\/Nm p q=q:=by unfold Nm;cases decide (eZ q p<0);exact Or.inl rfl;exact Or.inr rfl
theorem bBL(p q:Int×Int):Oi p q=p\/Oi p q=q:=by unfold Oi;cases decide (0<eZ q p);exact Or.inl rfl;exact Or.inr rfl
theorem aCF(p q:Int×Int):R.qz (Nm p q)<=R.qz p/\R.qz (Nm p q)<=R.qz q:=by
 unfold Nm
 by_cases h:eZ q p<0
 ·rw[decide_eq_true h,cond_true];exact⟨cGW (Dh.1 h),cID⟩
 ·rw[decide_eq_false h,cond_false];exact⟨cID,Rat.not_lt.1 fun hn=>h (Dh.2 hn)⟩
theorem aCW(p q:Int×Int):R.qz p<=R.qz (Oi p q)/\R.qz q<=R.qz (Oi p q):=by
 unfold Oi
 by_cases h:0<eZ q p
 ·rw[decide_eq_true h,cond_true];exact⟨cGW (zM.1 h),cID⟩
 ·rw[decide_eq_false h,cond_false];exact⟨cID,Rat.not_lt.1 fun hn=>h (zM.2 hn)⟩
end M
namespace W
open Go AI M
namespace Jj
def E:=mE [(158,Ku.aJ)] 14 [10] [] []
def aE:=bd f120
theorem aT:Nk E aE:=nk
theorem start a b c d e f:aF E f120 aE [D.agg [sc (bool a),ints u64 b,sc (int i64 c)],D.agg [sc (bool d),ints u64 e,sc (int i64 f)]]=aN (aU (a,b,c)/\aU (d,e,f)) (some [D.s (sc (int i64 (lF (bV.oD (dv (a,b,c)) (dv (d,e,f))) (bV.oC (dv (a,b,c)) (dv (d,e,f))))))]):=eJ aT
def sp(x y:gW):Prop×List D:=(aU x/\aU y,[.s (.sc (.int .i64 (eZ (dv x) (dv y))))])
theorem spec:fN E f120 aE kA kA sp:=by
 intro x y h;exact(start x.1 x.2.1 x.2.2 y.1 y.2.1 y.2.2).trans (gP h)
def aJ:dJ:=orc2 kA kA sp
theorem ok:OK 120 aJ:=(dY E aE (aA Ku.ok aC) func120).lD rfl spec
end Jj
namespace wV
def E:=mE [(45,mZ.aJ),(120,Jj.aJ)] 19 [] [] []
def aE:=bd f67
theorem aT:Nk E aE:=nk
theorem start a b c d e f:aF E f67 aE [D.agg [sc (bool a),ints u64 b,sc (int i64 c),sc (bool d),ints u64 e,sc (int i64 f)]]=aN (aU (a,b,c)) (aN (aU (d,e,f)) (aN (aU (a,b,c)/\aU (d,e,f)) (some [D.s (sc (bool (decide (eZ (dv (a,b,c)) (dv (d,e,f))<=0))))]))):=eJ aT
def sp(s:yM):Prop×List D:=(fD s,[.s (.sc (.bool true))])
theorem spec:iS E f67 aE Ae sp:=by
 rintro s ⟨h1,h2,h3⟩;refine(start s.1 s.2.1 s.2.2.1 s.2.2.2.1 s.2.2.2.2.1 s.2.2.2.2.2).trans ((gP h1).trans ((gP h2).trans ((gP ⟨h1,h2⟩).trans ?_)));show some [D.s (.sc (.bool (decide (eZ (dv (iO s)) (dv (iP s))<=0))))]=_;rw[decide_eq_true h3];rfl
def aJ:dJ:=orc1 Ae sp
theorem ok:OK 67 aJ:=(dY E aE (aA mZ.ok (aA Jj.ok aC)) func67).oU rfl spec
end wV
namespace aRM
def E:=mE [(97,Clone.aJ)] 10 [] [] []
def aE:=bd f171
theorem aT:Nk E aE:=nk
theorem start a b c:aF E f171 aE [D.agg [sc (bool a),ints u64 b,sc (int i64 c)]]=aN (b.length<=1099511627776) (some [D.agg [sc (bool a),ints u64 b,sc (int i64 c)]]):=eJ aT
def sp(x:gW):Prop×List D:=(x.2.1.length<=1099511627776,[.agg [.sc (.bool x.1),.ints .u64 x.2.1,.sc (.int .i64 x.2.2)]])
theorem spec:iS E f171 aE kA sp:=by
 intro x h;exact(start x.1 x.2.1 x.2.2).trans (gP h)
def aJ:dJ:=orc1 kA sp
theorem ok:OK 171 aJ:=(dY E aE (aA Clone.ok aC) func171).oU rfl spec
end aRM
namespace aDX
def E:=mE [(171,aRM.aJ)] 10 [] [] []
def aE:=bd f123
theorem aT:Nk E aE:=nk
theorem start a b c d e f:aF E f123 aE [D.agg [sc (bool a),ints u64 b,sc (int i64 c),sc (bool d),ints u64 e,sc (int i64 f)]]=aN (b.length<=1099511627776) (aN (e.length<=1099511627776) (some [D.agg [sc (bool a),ints u64 b,sc (int i64 c),sc (bool d),ints u64 e,sc (int i64 f)]])):=eJ aT
def sp(s:yM):Prop×List D:=(s.2.1.length<=1099511627776/\s.2.2.2.2.1.length<=1099511627776,[.agg [.sc (.bool s.1),.ints .u64 s.2.1,.sc (.int .i64 s.2.2.1),.sc (.bool s.2.2.2.1),.ints .u64 s.2.2.2.2.1,.sc (.int .i64 s.2.2.2.2.2)]])
theorem spec:iS E f123 aE Ae sp:=by
 intro s h;exact(start s.1 s.2.1 s.2.2.1 s.2.2.2.1 s.2.2.2.2.1 s.2.2.2.2.2).trans ((gP h.1).trans (gP h.2))
def aJ:dJ:=orc1 Ae sp
theorem ok:OK 123 aJ:=(dY E aE (aA aRM.ok aC) func123).oU rfl spec
end aDX
namespace aRO
def E:=mE [(67,wV.aJ),(123,aDX.aJ)] 16 [] [] []
def aE:=bd f154
theorem aT:Nk E aE:=nk
theorem start a b c d e f:aF E f154 aE [D.agg [sc (bool a),ints u64 b,sc (int i64 c)],D.agg [sc (bool d),ints u64 e,sc (int i64 f)]]=aN (fD (a,b,c,d,e,f)) (aN (b.length<=1099511627776/\e.length<=1099511627776) (some [D.agg [sc (bool a),ints u64 b,sc (int i64 c),sc (bool d),ints u64 e,sc (int i64 f)],D.s (sc (int i64 0))])):=eJ aT
def sp(x y:gW):Prop×List D:=(aU x/\aU y/\eZ (dv x) (dv y)<=0,[.agg [.sc (.bool x.1),.ints .u64 x.2.1,.sc (.int .i64 x.2.2),.sc (.bool y.1),.ints .u64 y.2.1,.sc (.int .i64 y.2.2)],.s (.sc (.int .i64 0))])
theorem spec:fN E f154 aE kA kA sp:=by
 rintro x y ⟨h1,h2,h3⟩;have l1:=h1.len;have l2:=h2.len;exact(start x.1 x.2.1 x.2.2 y.1 y.2.1 y.2.2).trans ((gP ⟨h1,h2,h3⟩).trans (gP ⟨by omega,by omega⟩))
def aJ:dJ:=orc2 kA kA sp
theorem ok:OK 154 aJ:=(dY E aE (aA wV.ok (aA aDX.ok aC)) func154).lD rfl spec
end aRO
namespace Fb
def E:=mE [(154,aRO.aJ)] 9 [6] [] []
def aE:=bd f113
theorem aT:Nk E aE:=nk
theorem start a b c:aF E f113 aE [D.agg [sc (bool a),ints u64 b,sc (int i64 c)]]=aN (aU (a,b,c)/\aU (a,b,c)/\eZ (dv (a,b,c)) (dv (a,b,c))<=0) (some [D.agg [sc (bool a),ints u64 b,sc (int i64 c),sc (bool a),ints u64 b,sc (int i64 c)],D.s (sc (int i64 0))]):=eJ aT
def sp(x:gW):Prop×List D:=(aU x,[.agg [.sc (.bool x.1),.ints .u64 x.2.1,.sc (.int .i64 x.2.2),.sc (.bool x.1),.ints .u64 x.2.1,.sc (.int .i64 x.2.2)],.s (.sc (.int .i64 0))])
theorem spec:iS E f113 aE kA sp:=by
 intro x h;exact(start x.1 x.2.1 x.2.2).trans (gP ⟨h,h,Tb _⟩)
def aJ:dJ:=orc1 kA sp
theorem ok:OK 113 aJ:=(dY E aE (aA aRO.ok aC) func113).oU rfl spec
end Fb
namespace aSA
def E:=mE [(51,aKB.aJ),(50,kB.aJ)] 12 [] [] []
def aE:=bd f14
theorem aT:Nk E aE:=nk
theorem start a:aF E f14 aE [D.s (sc (int i64 a))]=letI B:=(isNeg a,M6.dg a.natAbs);letI A:=bif iN (wv B) 0 then aQ (wv B) 0 else((0:Int),(0:Int));aN ((-9223372036854775808:Int)<=a/\a<9223372036854775808) (aN (iE B/\(-9223372036854775808:Int)<=(0:Int)/\(0:Int)<(9223372036854775808:Int)) (some [D.agg [sc (bool (isNeg A.fst)),ints u64 (M6.dg A.fst.natAbs),sc (int i64 A.snd)]])):=eJ aT
def sp(n:Int):Prop×List D:=(-9223372036854775808<=n/\n<9223372036854775808,[dD (aQ n 0)])
theorem aUM{n:Int}(h:bl n.natAbs<=524288):iN n 0=true:=by
 unfold iN
 by_cases hz:n=0
 ·rw[decide_eq_true hz,cGZ]
 ·have:=Dw (n:=n.natAbs) (by omega);rw[decide_eq_true (show(-1048576<=0+(tz n.natAbs:Int)) by omega),decide_eq_true (show(0+(tz n.natAbs:Int)<=1048576) by omega),cER,cHO]
theorem spec:iS E f14 aE (pN .i64) sp:=by
 rintro n ⟨h1,h2⟩;have hb:bl n.natAbs<=64:=dP.2 (by omega);refine(start n).trans ?_;rw[gP ⟨h1,h2⟩,gP ⟨gL (by omega),by omega,by omega⟩,oI,aUM (by omega)];rfl
def aJ:dJ:=orc1 (pN .i64) sp
theorem ok:OK 14 aJ:=(dY E aE (aA aKB.ok (aA kB.ok aC)) func14).oU rfl spec
end aSA
namespace Pl
def E:=mE [(113,Fb.aJ),(14,aSA.aJ)] 12 [] [] []
def aE:=bd f202
theorem aT:Nk E aE:=nk
theorem start a:aF E f202 aE [D.s (sc (int i64 a))]=letI A:=aQ a 0;letI C:=M6.dg A.fst.natAbs;letI B:=bool (isNeg A.fst);aN ((-9223372036854775808:Int)<=a/\a<9223372036854775808) (aN (aU (isNeg A.fst,M6.dg A.fst.natAbs,A.snd)) (some [D.agg [sc B,ints u64 C,sc (int i64 A.snd),sc B,ints u64 C,sc (int i64 A.snd)]])):=eJ aT
def sp(n:Int):Prop×List D:=(-1000000<=n/\n<=1000000,[wY (aQ n 0) (aQ n 0)])
theorem spec:iS E f202 aE (pN .i64) sp:=by
 rintro n ⟨h1,h2⟩;have hb:bl n.natAbs<=20:=dP.2 (by have:(2:Nat)^20=1048576:=rfl;omega);exact(start n).trans ((gP ⟨by omega,by omega⟩).trans (gP (dW (iF (iL (by decide) (by omega)) (by omega)))))
def aJ:dJ:=orc1 (pN .i64) sp
theorem ok:OK 202 aJ:=(dY E aE (aA Fb.ok (aA aSA.ok aC)) func202).oU rfl spec
end Pl
namespace Cr
def E:=mE [(45,mZ.aJ),(46,nM.aJ),(234,aRY.aJ)] 13 [12] [] []
def aE:=bd f203
theorem aT:Nk E aE:=nk
theorem start a b c:aF E f203 aE [D.agg [sc (bool a),ints u64 b,sc (int i64 c)]]=aN (aU (a,b,c)) (aN True (aB ((b.length:Int)==(0:Int)) (some [D.s (sc (int i64 0)),D.s (sc (int i64 4))]) (aN (aU (a,b,c)) (some [D.s (sc (int i64 (c+(↑(bl (M6.val b)):Int)-(1:Int)))),D.s (sc (int i64 0))])))):=eJ aT
def sp(x:gW):Prop×List D:=(aU x,[.s (.sc (.int .i64 (if(dv x).1=0 then 0 else x.2.2+(bl (M6.val x.2.1):Nat)-1))),.s (.sc (.int .i64 (if(dv x).1=0 then 4 else 0)))])
theorem spec:iS E f203 aE kA sp:=by
 intro x h;have h:aU x:=h;refine(start x.1 x.2.1 x.2.2).trans ?_;have hz:=M6.cZ h.Kl;have ha:=iY (x.1,x.2.1)
 try dsimp only at ha
 have hd:(dv x).1=wv (x.1,x.2.1):=rfl;unfold sp
 try dsimp only
 rw[gP h,gP trivial]
 by_cases h0:x.2.1.length=0
 ·have:(dv x).1=0:=by rw[hd];have:=hz.1 h0;omega
  rw[bJ,if_pos this,if_pos this]
 ·have:(dv x).1≠0:=by rw[hd];have:=fun hv=>h0 (hz.2 hv);omega
  rw[bB,if_neg this,if_neg this,gP h]
def aJ:dJ:=orc1 kA sp
theorem ok:OK 203 aJ:=(dY E aE (aA mZ.ok (aA nM.ok (aA aRY.ok aC))) func203).oU rfl spec
end Cr
end W
namespace W.Arctan
def rounds(k:Nat):Nat->Nat->Nat->Nat->Nat->Nat->Nat×Nat
 |0,_,p,m,_,n=>(p-m,n)
 |f+1,t,p,m,i,n=>if t=0 then(p-m,n)else if i%4=1 then rounds k f (t/k/k) (p+t/i) m (i+2) (n+1)else rounds k f (t/k/k) p (m+t/i) (i+2) (n+1)
theorem aHY{k Q:Nat}:∀(f t p m i n:Nat),t<2^Q->p<2^(Q+n+1)->(rounds k f t p m i n).1<2^(Q+n+f+1)/\(rounds k f t p m i n).2<=n+f:=by
 intro f
 induction f with
 |zero =>
  intro t p m i n ht hp;exact⟨cIE (cIA _ _) hp,by simp[rounds]⟩
 |succ f ih =>
  intro t p m i n ht hp;have aOM:2^(Q+n+1)<=2^(Q+n+(f+1)+1):=eY;have bGI:2^(Q+(n+1)+1)=2*2^(Q+n+1):=by rw[show Q+(n+1)+1=(Q+n+1)+1 from by omega,cGO];omega
  have hd:t/i<2^(Q+n+1):=cIE (cKC _ _) (cCM ht (eY));have hk:t/k/k<2^Q:=cIE (cKC _ _) (cIE (cKC _ _) ht);unfold rounds;split
  ·refine⟨cCM (cIE (cIA _ _) hp) aOM,by simp⟩
  ·split
   ·have:=ih (t/k/k) (p+t/i) m (i+2) (n+1) hk (by rw[bGI];omega);rw[show Q+(n+1)+f+1=Q+n+(f+1)+1 from by omega]at this;exact⟨this.1,by omega⟩
   ·have:=ih (t/k/k) p (m+t/i) (i+2) (n+1) hk (by rw[bGI];omega);rw[show Q+(n+1)+f+1=Q+n+(f+1)+1 from by omega]at this;exact⟨this.1,by omega⟩
def atan(k q:Nat):Nat×Nat:=rounds k (q+2) (2^q/k) 0 0 1 0
theorem Gx(k q:Nat):(atan k q).1<2^(2*q+4)/\(atan k q).2<=q+2:=by
 have hb:2^q/k<2^(q+1):=cIE (cKC _ _) (cII (by omega) (by omega));have:=aHY (k:=k) (Q:=q+1) (q+2) (2^q/k) 0 0 1 0 hb (dA);rw[show q+1+0+(q+2)+1=2*q+4 from by omega]at this;exact⟨this.1,by have:=this.2;unfold atan;omega⟩
end W.Arctan
namespace W
open Go AI M
namespace aRX
def E:=mE [(194,oR.aJ)] 32 [12,20,27] [] []
def aE:=bd f251
theorem aT:Nk E aE:=nk
theorem start a b:aF E f251 aE [D.s (ints u64 a),D.s (sc (int u64 b))]=letI A:=M6.dg (M6.val a/b.toNat);aB (decide (b<4294967296)) (aN (M6.cN a/\a.length<=8192/\0<u64.wrap (b*b)/\u64.wrap (b*b)<18446744073709551616) (some [D.s (ints u64 (M6.dg (M6.val a/(u64.wrap (b*b)).toNat)))])) (aN (M6.cN a/\a.length<=8192/\0<b/\b<18446744073709551616) (aN (M6.cN A/\A.length<=8192/\0<b/\b<18446744073709551616) (some [D.s (ints u64 (M6.dg (M6.val A/b.toNat)))]))):=eJ aT
def sp(a:List Int)(b:Int):Prop×List D:=(M6.cN a/\a.length<=8192/\2<=b/\b<4294967296,[.s (.ints .u64 (M6.dg (M6.val a/b.toNat/b.toNat)))])
theorem spec:fN E f251 aE (pI .u64) (pN .u64) sp:=by
 rintro a b ⟨hn,hl,h0,h1⟩;obtain⟨k,rfl⟩:=cGR (show 0<=b by omega);have hk:k*k<4294967296*4294967296:=Nat.mul_lt_mul_of_lt_of_le (by omega) (by omega) (by omega);have bYB:0<k*k:=Nat.mul_pos (by omega) (by omega);have e:u64.wrap ((k:Int)*(k:Int))=((k*k:Nat):Int):=by
  rw[<-cHN];exact wrap_u64
 refine(start a k).trans ?_;rw[aM h1,e,cFM,gP ⟨hn,hl,by omega,by omega⟩];unfold sp;rw[cFM,cHG]
def aJ:dJ:=orc2 (pI .u64) (pN .u64) sp
theorem ok:OK 251 aJ:=(dY E aE (aA oR.ok aC) func251).lD rfl spec
end aRX
namespace eB
def E:=mE [(98,lN.aJ),(95,pQ.aJ),(194,oR.aJ),(100,wF.aJ),(102,wC.aJ),(251,aRX.aJ)] 72 [67] [(6,[0,6,8,9,10,11])] []
def aE:=bd f230
theorem aT:Nk E aE:=nk
def L6 a b (c:Nat) (d:List Int) (e:Nat) (f:List Int) g h:=qA E f230 aE 6 [dM a,jK b,Dm 2 c 22 d,Dm 3 e 22 f,dM g,dM h]
def bQS a b c (d:Nat) (e:List Int) f g:=qA E f230 aE 6 [dM a,jK b,jK c,Dm 3 d 22 e,dM f,dM g]
def cBL a b (c:Nat) (d:List Int) e f g:=qA E f230 aE 6 [dM a,jK b,Dm 2 c 22 d,jK e,dM f,dM g]
def bJG a b c d e f:=qA E f230 aE 6 [dM a,jK b,jK c,jK d,dM e,dM f]
theorem start a b:aF E f230 aE [D.s (sc (int u64 a)),D.s (sc (int i64 b))]=letI B:=M6.dg 1;letI A:=bif lN.kR (M6.val B) b.toNat then M6.dg (M6.val B*(2:Nat)^b.toNat)else [];aN ((0:Int)<=(1:Int)/\(1:Int)<(18446744073709551616:Int)) (aN (M6.cN B/\B.length<=8192/\0<=b/\b<4611686018427387904) (aN (M6.cN A/\A.length<=8192/\0<a/\a<18446744073709551616) (eB.L6 a (M6.dg (M6.val A/a.toNat)) 0 [] 0 [] 2 1))):=eJ aT
theorem vI a b c d e f g h:L6 a b c d e f g h=letI C:=M6.dg (M6.val b/a.toNat/a.toNat);letI B:=M6.cN b/\b.length<=8192/\2<=a/\a<4294967296;letI A:=M6.dg (M6.val b/h.toNat);letI G:=M6.val f+M6.val A;letI F:=M6.val d+M6.val A;aB (decide (0<(b.length:Int))) (aN (M6.cN b/\b.length<=8192/\0<h/\h<18446744073709551616) (aB (h.tmod 4==(1:Int)) (aN (M6.cN d/\M6.cN A/\d.length<=8192/\A.length<=8192) (aN B (eB.bQS a C (bif dK.nS F then M6.dg F else []) e f (u64.wrap (g+3)) (u64.wrap (h+2))))) (aN (M6.cN f/\M6.cN A/\f.length<=8192/\A.length<=8192) (aN B (eB.cBL a C c d (bif dK.nS G then M6.dg G else []) (u64.wrap (g+3)) (u64.wrap (h+2))))))) (aN (M6.cN d/\M6.cN f/\d.length<=8192/\f.length<=8192) (some [D.s (ints u64 (M6.dg (M6.val d-M6.val f))),D.s (sc (int u64 g))])):=lJ aT
theorem bCW a b c d e f g:bQS a b c d e f g=letI C:=M6.dg (M6.val b/a.toNat/a.toNat);letI B:=M6.cN b/\b.length<=8192/\2<=a/\a<4294967296;letI A:=M6.dg (M6.val b/g.toNat);letI G:=M6.val e+M6.val A;letI F:=M6.val c+M6.val A;aB (decide (0<(b.length:Int))) (aN (M6.cN b/\b.length<=8192/\0<g/\g<18446744073709551616) (aB (g.tmod 4==(1:Int)) (aN (M6.cN c/\M6.cN A/\c.length<=8192/\A.length<=8192) (aN B (eB.bQS a C (bif dK.nS F then M6.dg F else []) d e (u64.wrap (f+3)) (u64.wrap (g+2))))) (aN (M6.cN e/\M6.cN A/\e.length<=8192/\A.length<=8192) (aN B (eB.bJG a C c (bif dK.nS G then M6.dg G else []) (u64.wrap (f+3)) (u64.wrap (g+2))))))) (aN (M6.cN c/\M6.cN e/\c.length<=8192/\e.length<=8192) (some [D.s (ints u64 (M6.dg (M6.val c-M6.val e))),D.s (sc (int u64 f))])):=lJ aT
theorem aRU a b c d e f:bJG a b c d e f=letI C:=M6.dg (M6.val b/a.toNat/a.toNat);letI B:=M6.cN b/\b.length<=8192/\2<=a/\a<4294967296;letI A:=M6.dg (M6.val b/f.toNat);letI G:=M6.val d+M6.val A;letI F:=M6.val c+M6.val A;aB (decide (0<(b.length:Int))) (aN (M6.cN b/\b.length<=8192/\0<f/\f<18446744073709551616) (aB (f.tmod 4==(1:Int)) (aN (M6.cN c/\M6.cN A/\c.length<=8192/\A.length<=8192) (aN B (eB.bJG a C (bif dK.nS F then M6.dg F else []) d (u64.wrap (e+3)) (u64.wrap (f+2))))) (aN (M6.cN d/\M6.cN A/\d.length<=8192/\A.length<=8192) (aN B (eB.bJG a C c (bif dK.nS G then M6.dg G else []) (u64.wrap (e+3)) (u64.wrap (f+2))))))) (aN (M6.cN c/\M6.cN d/\c.length<=8192/\d.length<=8192) (some [D.s (ints u64 (M6.dg (M6.val c-M6.val d))),D.s (sc (int u64 e))])):=lJ aT
open Arctan in
theorem mS {n k:Nat} (h:n<2^k) (hk:k<=524288):(M6.dg n).length<=8192:=gA (k:=8192) (cCL (dP.2 h) (by omega))
theorem aXG{n k:Nat}(h:n<2^k)(hk:k<=524288):dK.nS n=true:=decide_eq_true (mS h hk)
theorem Ld{k Q:Nat}(hk:2<=k)(Yy:k<4294967296)(hQ:Q<=200000):∀(f t p m n:Nat),t<2^Q->t<4^f->f+n<=250000->p<2^(Q+n+1)->m<2^(Q+n+1) ->
  bJG k (M6.dg t) (M6.dg p) (M6.dg m) ((2+3*n:Nat):Int) ((2*n+1:Nat):Int)=some [D.s (.ints .u64 (M6.dg (Arctan.rounds k f t p m (2*n+1) n).1)),D.s (.sc (.int .u64 ((2+3*(Arctan.rounds k f t p m (2*n+1) n).2:Nat):Int)))]:=by
 intro f
 induction f with
 |zero =>
  intro t p m n bKX ht hf hp hm;have:t=0:=by simpa using ht
  subst this;rw[aRU,M6.cD,aL (by simp),gP ⟨M6.aY _,M6.aY _,mS hp (by omega),mS hm (by omega)⟩,M6.bD,M6.bD];rfl
 |succ f ih =>
  intro t p m n bKX ht hf hp hm;rw[aRU];unfold Arctan.rounds
  by_cases hz:t=0
  ·subst hz;rw[M6.cD,aL (by simp),gP ⟨M6.aY _,M6.aY _,mS hp (by omega),mS hm (by omega)⟩,M6.bD,M6.bD,if_pos rfl]
  ·have bDX:(M6.dg t).length≠0:=fun h=>hz (M6.gJ.1 h)
   have et:(((2*n+1:Nat):Int)).toNat=2*n+1:=cFM _;have ek:((k:Int)).toNat=k:=cFM _;have em:(((2*n+1:Nat):Int)).tmod 4=(((2*n+1)%4:Nat):Int):=by rw[cJE (by omega)];omega
   have w1:u64.wrap (((2+3*n:Nat):Int)+3)=((2+3*(n+1):Nat):Int):=by rw[wrap_u64];omega
   have w2:u64.wrap (((2*n+1:Nat):Int)+2)=((2*(n+1)+1:Nat):Int):=by rw[wrap_u64];omega
   have bKA:t/k/k<2^Q:=cIE (cKC _ _) (cIE (cKC _ _) bKX);have bSG:t/k/k<4^f:=by
    rw[cHG];apply cHJ;have:4<=k*k:=cMD hk hk;rw[cGO 4 f,cGN (4^f)]at ht;exact cCM ht (cDE _ this)
   have aOM:2^(Q+(n+1)+1)=2*2^(Q+n+1):=by rw[show Q+(n+1)+1=(Q+n+1)+1 from by omega,cGO];omega
   have hd:t/(2*n+1)<2^(Q+n+1):=cIE (cKC _ _) (cCM bKX (eY));have lt:=mS bKX (by omega);have ld:=mS hd (by omega);rw[aM];simp only[et,ek,em,M6.bD,w1,w2];rw[gP ⟨M6.aY _,lt,by omega,by omega⟩,if_neg hz,show 2*n+1+2=2*(n+1)+1 by omega]
   by_cases hc:(2*n+1)%4=1
   ·have hs:p+t/(2*n+1)<2^(Q+(n+1)+1):=by rw[aOM];omega
    rw[bJ,gP ⟨M6.aY _,M6.aY _,mS hp (by omega),ld⟩,gP ⟨M6.aY _,lt,by omega,by omega⟩,if_pos hc,aXG hs (by omega),cond_true];exact ih _ _ _ (n+1) bKA bSG (by omega) hs (by rw[aOM];omega)
   ·have hs:m+t/(2*n+1)<2^(Q+(n+1)+1):=by rw[aOM];omega
    rw[bB,gP ⟨M6.aY _,M6.aY _,mS hm (by omega),ld⟩,gP ⟨M6.aY _,lt,by omega,by omega⟩,if_neg hc,aXG hs (by omega),cond_true];exact ih _ _ _ (n+1) bKA bSG (by omega) (by rw[aOM];omega) hs
def sp(k q:Int):Prop×List D:=((2<=k/\k<4294967296)/\0<=q/\q<=150000,[.s (.ints .u64 (M6.dg (Arctan.atan k.toNat q.toNat).1)),.s (.sc (.int .u64 ((2+3*(Arctan.atan k.toNat q.toNat).2:Nat):Int)))])
theorem spec:fN E f230 aE (pN .u64) (pN .i64) sp:=by
 rintro k q ⟨⟨h1,h2⟩,h3,h4⟩;refine(start k q).trans ?_;unfold sp;obtain⟨k,rfl⟩:=cGR (show 0<=k by omega);obtain⟨q,rfl⟩:=cGR h3;have Qi:2^q<2^(q+1):=cII (by omega) (by omega);have hb:2^q/k<2^(q+1):=cIE (cKC _ _) Qi;have so:lN.kR 1 q=true:=by
  unfold lN.kR;rw[show bl 1=1 from rfl,decide_eq_true (show 1+q<=524288 by omega),cHO]
 have l1:(M6.dg 1).length<=8192:=mS (k:=1) (by decide) (by decide);have nn:M6.cN ([]:List Int):=by rw[<-M6.cD];exact M6.aY 0
 have v0:M6.val ([]:List Int)=0:=rfl;simp only[M6.bD,cFM,so,cond_true,cFT];rw[gP ⟨by decide,by decide⟩,gP ⟨M6.aY _,l1,by omega,by omega⟩,gP ⟨M6.aY _,mS Qi (by omega),by omega,by omega⟩];unfold Arctan.atan;have bYS:2^q/k<4^(q+2):=cCM hb (by rw[show(4:Nat)=2^2 from rfl,<-Nat.pow_mul];exact eY);generalize 2^q/k=t at *;have e4:4^(q+2)=16*4^q:=by rw[cGP];omega
 rw[e4]at bYS;have kk:4<=k*k:=cMD (show 2<=k by omega) (show 2<=k by omega);have step:∀a X:Nat,a<4*X->a/k/k<X:=fun a X ha=>by
  rw[cHG];exact cHJ (cCM ha (cDE _ kk))
 have aQE:∀a:Nat,a/k/k<=a:=fun a=>cCL (cKC _ _) (cKC _ _)
 have ht:=mS hb (by omega);rw[vI,show q+2=(q+1)+1 by omega];unfold Arctan.rounds
 by_cases z:t=0
 ·subst z;rw[M6.cD,aL (by simp),gP ⟨nn,nn,by decide,by decide⟩,if_pos rfl,v0];rfl
 ·have bDX:(M6.dg t).length≠0:=fun h=>z (M6.gJ.1 h)
  rw[aM,if_neg z,if_pos (by decide)];simp only[M6.bD,v0,cBR,Int.toNat_one,Nat.div_one,cFM];have xP:=cIE (aQE t) hb;have bYT:=step t (4*4^q) (by omega);have l2:=mS xP (by omega);rw[gP ⟨M6.aY _,ht,by decide,by decide⟩,bJ (by decide),gP ⟨nn,M6.aY _,by decide,ht⟩,gP ⟨M6.aY _,ht,by omega,by omega⟩,aXG hb (by omega),cond_true,bCW,show u64.wrap (2+3)=5 from wrap_u64 (by decide) (by decide),show u64.wrap (1+2)=3 from wrap_u64 (by decide) (by decide)];unfold Arctan.rounds;generalize t/k/k=u at *
  by_cases z1:u=0
  ·subst z1;rw[M6.cD,aL (by simp),gP ⟨M6.aY _,nn,ht,by decide⟩,if_pos rfl,v0,M6.bD];rfl
  ·have Ka:(M6.dg u).length≠0:=fun h=>z1 (M6.gJ.1 h)
   have bSE:u/3<2^(q+1):=cIE (cKC _ _) xP;rw[aM,if_neg z1,if_neg (by decide)];simp only[M6.bD,v0,cBR,cFM,show((3:Int)).toNat=3 from rfl];rw[gP ⟨M6.aY _,l2,by decide,by decide⟩,bB (by decide),gP ⟨nn,M6.aY _,by decide,mS bSE (by omega)⟩,gP ⟨M6.aY _,l2,by omega,by omega⟩,aXG bSE (by omega),cond_true,show u64.wrap (5+3)=8 from wrap_u64 (by decide) (by decide),show u64.wrap (3+2)=5 from wrap_u64 (by decide) (by decide)];have up:2^(q+1)<=2^(q+1+2+1):=eY;exact Ld (k:=k) (Q:=q+1) (by omega) (by omega) (by omega) q (u/k/k) t (u/3) 2 (cIE (aQE u) xP) (step u (4^q) bYT) (by omega) (by omega) (by omega)
def aJ:dJ:=orc2 (pN .u64) (pN .i64) sp
theorem ok:OK 230 aJ:=(dY E aE (aA lN.ok (aA pQ.ok (aA oR.ok (aA wF.ok (aA wC.ok (aA aRX.ok aC)))))) func230).lD rfl spec
end eB
namespace THalvings
def E:=mE [] 13 [] [(2,[0,3])] []
def aE:=bd f235
theorem aT:Nk E aE:=nk
def L2 a b:=qA E f235 aE 2 [bP a,bP b]
theorem start a:aF E f235 aE [D.s (sc (int i64 a))]=THalvings.L2 a 4:=eJ aT
theorem mG a b:L2 a b=aB (decide (i64.wrap (i64.wrap ((4:Int)*b)*b)<a)) (THalvings.L2 a (i64.wrap (b+1))) (some [D.s (sc (int i64 b))]):=lJ aT
def hlv(w:Int):Nat->Nat->Nat
 |0,h=>h
 |f+1,h=>if 4*(h:Int)*h<w then hlv w f (h+1)else h
def sp(w:Int):Prop×List D:=(w<=150000,[.s (.sc (.int .i64 (hlv w 200 4:Nat)))])
theorem L{w:Int}(hw:w<=150000):∀f h:Nat,h+f=204->L2 w h=some [.s (.sc (.int .i64 (hlv w f h:Nat)))]:=by
 intro f
 induction f with
 |zero =>
  intro h hh;obtain rfl:h=204:=by omega
  have e:i64.wrap (i64.wrap (4*((204:Nat):Int))*((204:Nat):Int))=166464:=by decide +kernel
  rw[mG,e,aL];rfl
 |succ f ih =>
  intro h hh;have hb:(h:Int)*h<=41616:=Int.ofNat_le.2 (cMD (show h<=204 by omega) (show h<=204 by omega));have hb0:(0:Int)<=(h:Int)*h:=cND (by omega) (by omega);have ea:4*(h:Int)*h=4*((h:Int)*h):=Int.mul_assoc _ _ _;have e:i64.wrap (i64.wrap (4*(h:Int))*(h:Int))=4*(h:Int)*h:=by rw[wrap_i64 (n:=4*(h:Int)),wrap_i64]
  have e2:i64.wrap ((h:Int)+1)=((h+1:Nat):Int):=by rw[wrap_i64];omega
  rw[mG,e,e2];unfold hlv
  by_cases c:4*(h:Int)*h<w
  ·rw[aM c,if_pos c];exact ih (h+1) (by omega)
  ·rw[aL c,if_neg c]
theorem spec:iS E f235 aE (pN .i64) sp:=fun w h=>(start w).trans (L h 200 4 rfl)
def aJ:dJ:=orc1 (pN .i64) sp
theorem ok:OK 235 aJ:=(dY E aE aC func235).oU rfl spec
end THalvings
namespace wU
def E:=mE [(48,Cn.aJ),(192,jY.aJ)] 36 [] [] []
def aE:=bd f236
theorem aT:Nk E aE:=nk
theorem start a c d b:aF E f236 aE [D.agg [sc (bool a),ints u64 c,sc (int i64 d)],D.s (sc (int i64 b))]=letI A:=(false,c);aB (decide (0<=i64.wrap (d+b))) (aN (iE A/\0<=i64.wrap (d+b)/\i64.wrap (d+b)<4611686018427387904) (some [D.s (ints u64 (M6.dg (bif fit (M6.val c*(2:Nat)^(i64.wrap (d+b)).toNat)then wv A*(↑((2:Nat)^(i64.wrap (d+b)).toNat):Int)else(0:Int)).natAbs))])) (aN (iE A/\0<=i64.wrap ((0:Int)-i64.wrap (d+b))/\i64.wrap ((0:Int)-i64.wrap (d+b))<4611686018427387904) (some [D.s (ints u64 (M6.dg (wv A/(↑((2:Nat)^(i64.wrap ((0:Int)-i64.wrap (d+b))).toNat):Int)).natAbs))])):=eJ aT
def aSQ(p:Int×Int)(n:Int):Nat:=if 0<=p.2+n then p.1.natAbs*2^(p.2+n).toNat else p.1.natAbs/2^(-(p.2+n)).toNat
def sp(x:gW)(n:Int):Prop×List D:=(aU x/\-1099511627776<=n/\n<=1099511627776/\(0<=x.2.2+n->fit ((dv x).1.natAbs*2^(x.2.2+n).toNat)=true),[.s (.ints .u64 (M6.dg (aSQ (dv x) n)))])
theorem spec:fN E f236 aE kA (pN .i64) sp:=by
 rintro x n ⟨hx,h1,h2,hf⟩;have he:=hx.2.1;refine(start x.1 x.2.1 x.2.2 n).trans ?_;have w1:i64.wrap (x.2.2+n)=x.2.2+n:=wrap_i64;have ha:(dv x).1.natAbs=M6.val x.2.1:=iY (x.1,x.2.1);have ok:iE (false,x.2.1):=⟨hx.1.1,fun hf=>(by cases hf),hx.1.len⟩;have vx:wv (false,x.2.1)=(M6.val x.2.1:Int):=rfl;rw[w1,vx];unfold sp aSQ;dsimp only
 by_cases c:0<=x.2.2+n
 ·have aXU:=hf c;rw[ha]at aXU ⊢;rw[aM c,gP ⟨ok,c,by omega⟩,aXU,cond_true,if_pos (show 0<=(dv x).2+n from c),<-cHN,cHH];rfl
 ·have w2:i64.wrap (0-(x.2.2+n))=-(x.2.2+n):=by rw[wrap_i64];omega
  rw[ha,w2,aL c,gP ⟨ok,by omega,by omega⟩,if_neg (show ¬0<=(dv x).2+n from c),<-Int.natCast_ediv,cHH];rfl
def aJ:dJ:=orc2 kA (pN .i64) sp
theorem ok:OK 236 aJ:=(dY E aE (aA Cn.ok (aA jY.ok aC)) func236).lD rfl spec
end wU
namespace Pk
def E:=mE [(233,aRP.aJ),(104,Hj.aJ)] 22 [12,18] [] []
def aE:=bd f238
theorem aT:Nk E aE:=nk
theorem start a b c:aF E f238 aE [D.s (ints u64 a),D.s (ints u64 b),D.s (sc (int i64 c))]=letI B:=M6.val a*M6.val b;letI A:=bif dK.nS B then M6.dg B else [];aN (M6.cN a/\M6.cN b/\a.length<=8192/\b.length<=8192) (aN (M6.cN A/\A.length<=8192/\0<=c/\c<4611686018427387904) (some [D.s (ints u64 (M6.dg (M6.val A/(2:Nat)^c.toNat)))])):=eJ aT
def sp(a b:List Int)(n:Int):Prop×List D:=(M6.cN a/\M6.cN b/\a.length<=4096/\b.length<=4096/\0<=n/\n<4611686018427387904,[.s (.ints .u64 (M6.dg (M6.val a*M6.val b/2^n.toNat)))])
theorem spec:oG E f238 aE (pI .u64) (pI .u64) (pN .i64) sp:=by
 rintro a b n ⟨h1,h2,l1,l2,n1,n2⟩;have hl:(M6.dg (M6.val a*M6.val b)).length<=8192:=by
  refine M6.dS (k:=8192) ?_;have va:=cCM (M6.dT h1.jA) (cEQ (by decide) l1);have vb:=cCM (M6.dT h2.jA) (cEQ (by decide) l2);rw[show(8192:Nat)=4096+4096 from rfl,cGP];generalize 18446744073709551616^4096=Q at *;exact cKD va vb
 have ok:dK.nS (M6.val a*M6.val b)=true:=decide_eq_true hl;refine(start a b n).trans ?_;rw[gP ⟨h1,h2,by omega,by omega⟩,ok];simp only[cond_true,M6.bD];exact gP ⟨M6.aY _,hl,n1,n2⟩
def aJ:dJ:=orc3 (pI .u64) (pI .u64) (pN .i64) sp
theorem ok:OK 238 aJ:=(dY E aE (aA aRP.ok (aA Hj.ok aC)) func238).xN rfl spec
end Pk
namespace TSums
def E:Env:={ ({ base with C:=callsOf [(98,lN.aJ),(95,pQ.aJ),(100,wF.aJ),(238,Pk.aJ),(194,oR.aJ),(102,wC.aJ)],wide:=some .u64 })with nt:=63,own:=[50,58],keep:=fun k=>(tlook [(4,[0,1,6,7,9])] k).getD [],cut:=tlook [] }
def aE:=bd f237
theorem aT:Nk E aE:=nk
def L4 a b c d e f g h:=qA E f237 aE 4 [jK a,bP b,dR 2 298 [gM c,gM d,gM e,gM f],jK g,dM h]
theorem start a b:aF E f237 aE [D.s (ints u64 a),D.s (sc (int i64 b))]=letI A:=M6.dg 1;aN ((0:Int)<=(1:Int)/\(1:Int)<(18446744073709551616:Int)) (aN (M6.cN A/\A.length<=8192/\0<=b/\b<4611686018427387904) (aD (bif lN.kR (M6.val A) b.toNat then M6.dg (M6.val A*(2:Nat)^b.toNat)else []) fun c=>TSums.L4 a b [] [] [] [] c 0)):=eJ aT
theorem nR a b c d e f g h:L4 a b c d e f g h=letI P:=M6.val f+M6.val g;letI O:=M6.val e+M6.val g;letI N:=M6.val d+M6.val g;letI K:=M6.val c+M6.val g;letI I:=decide (h.tmod 4=(3:Int));letI H:=decide (h.tmod 4=(2:Int));letI G:=decide (h.tmod 4=(1:Int));letI F:=decide (h.tmod 4=(0:Int));letI C:=u64.wrap (h+1);letI B:=M6.dg (M6.val g*M6.val a/(2:Nat)^b.toNat);letI A:=M6.cN g/\M6.cN a/\g.length<=4096/\a.length<=4096/\0<=b/\b<4611686018427387904;aB (decide (0<(g.length:Int))) (aB F (aN (M6.cN c/\M6.cN g/\c.length<=8192/\g.length<=8192) (aD (bif dK.nS K then M6.dg K else []) fun i=>aB F (aN A (aD B fun j=>aN (M6.cN j/\j.length<=8192/\0<u64.wrap (h+1)/\u64.wrap (h+1)<18446744073709551616) (aD (M6.dg (M6.val j/C.toNat)) fun k=>TSums.L4 a b i d e f k C))) (aB G (aN A (aD B fun l=>aN (M6.cN l/\l.length<=8192/\0<u64.wrap (h+1)/\u64.wrap (h+1)<18446744073709551616) (aD (M6.dg (M6.val l/C.toNat)) fun m=>TSums.L4 a b c i e f m C))) (aB H (aN A (aD B fun n=>aN (M6.cN n/\n.length<=8192/\0<u64.wrap (h+1)/\u64.wrap (h+1)<18446744073709551616) (aD (M6.dg (M6.val n/C.toNat)) fun o=>TSums.L4 a b c d i f o C))) (aB I (aN A (aD B fun p=>aN (M6.cN p/\p.length<=8192/\0<u64.wrap (h+1)/\u64.wrap (h+1)<18446744073709551616) (aD (M6.dg (M6.val p/C.toNat)) fun q=>TSums.L4 a b c d e i q C))) none))))) (aB G (aN (M6.cN d/\M6.cN g/\d.length<=8192/\g.length<=8192) (aD (bif dK.nS N then M6.dg N else []) fun r=>aB F (aN A (aD B fun s=>aN (M6.cN s/\s.length<=8192/\0<u64.wrap (h+1)/\u64.wrap (h+1)<18446744073709551616) (aD (M6.dg (M6.val s/C.toNat)) fun t=>TSums.L4 a b r d e f t C))) (aB G (aN A (aD B fun u=>aN (M6.cN u/\u.length<=8192/\0<u64.wrap (h+1)/\u64.wrap (h+1)<18446744073709551616) (aD (M6.dg (M6.val u/C.toNat)) fun v=>TSums.L4 a b c r e f v C))) (aB H (aN A (aD B fun w=>aN (M6.cN w/\w.length<=8192/\0<u64.wrap (h+1)/\u64.wrap (h+1)<18446744073709551616) (aD (M6.dg (M6.val w/C.toNat)) fun x=>TSums.L4 a b c d r f x C))) (aB I (aN A (aD B fun y=>aN (M6.cN y/\y.length<=8192/\0<u64.wrap (h+1)/\u64.wrap (h+1)<18446744073709551616) (aD (M6.dg (M6.val y/C.toNat)) fun z=>TSums.L4 a b c d e r z C))) none))))) (aB H (aN (M6.cN e/\M6.cN g/\e.length<=8192/\g.length<=8192) (aD (bif dK.nS O then M6.dg O else []) fun aa=>aB F (aN A (aD B fun ab=>aN (M6.cN ab/\ab.length<=8192/\0<u64.wrap (h+1)/\u64.wrap (h+1)<18446744073709551616) (aD (M6.dg (M6.val ab/C.toNat)) fun ac=>TSums.L4 a b aa d e f ac C))) (aB G (aN A (aD B fun ad=>aN (M6.cN ad/\ad.length<=8192/\0<u64.wrap (h+1)/\u64.wrap (h+1)<18446744073709551616) (aD (M6.dg (M6.val ad/C.toNat)) fun ae=>TSums.L4 a b c aa e f ae C))) (aB H (aN A (aD B fun af=>aN (M6.cN af/\af.length<=8192/\0<u64.wrap (h+1)/\u64.wrap (h+1)<18446744073709551616) (aD (M6.dg (M6.val af/C.toNat)) fun ag=>TSums.L4 a b c d aa f ag C))) (aB I (aN A (aD B fun ah=>aN (M6.cN ah/\ah.length<=8192/\0<u64.wrap (h+1)/\u64.wrap (h+1)<18446744073709551616) (aD (M6.dg (M6.val ah/C.toNat)) fun ai=>TSums.L4 a b c d e aa ai C))) none))))) (aB I (aN (M6.cN f/\M6.cN g/\f.length<=8192/\g.length<=8192) (aD (bif dK.nS P then M6.dg P else []) fun aj=>aB F (aN A (aD B fun ak=>aN (M6.cN ak/\ak.length<=8192/\0<u64.wrap (h+1)/\u64.wrap (h+1)<18446744073709551616) (aD (M6.dg (M6.val ak/C.toNat)) fun al=>TSums.L4 a b aj d e f al C))) (aB G (aN A (aD B fun am=>aN (M6.cN am/\am.length<=8192/\0<u64.wrap (h+1)/\u64.wrap (h+1)<18446744073709551616) (aD (M6.dg (M6.val am/C.toNat)) fun an=>TSums.L4 a b c aj e f an C))) (aB H (aN A (aD B fun ao=>aN (M6.cN ao/\ao.length<=8192/\0<u64.wrap (h+1)/\u64.wrap (h+1)<18446744073709551616) (aD (M6.dg (M6.val ao/C.toNat)) fun ap=>TSums.L4 a b c d aj f ap C))) (aB I (aN A (aD B fun aq=>aN (M6.cN aq/\aq.length<=8192/\0<u64.wrap (h+1)/\u64.wrap (h+1)<18446744073709551616) (aD (M6.dg (M6.val aq/C.toNat)) fun ar=>TSums.L4 a b c d e aj ar C))) none))))) none)))) (aN (M6.cN c/\M6.cN e/\c.length<=8192/\e.length<=8192) (aD (M6.dg (M6.val c-M6.val e)) fun au=>aN (M6.cN d/\M6.cN f/\d.length<=8192/\f.length<=8192) (aD (M6.dg (M6.val d-M6.val f)) fun av=>some [D.s (ints u64 av),D.s (ints u64 au)]))):=lJ aT
def tay(u W:Nat):Nat->Nat->Nat->Nat->Nat->Nat->Nat×Nat×Nat×Nat
 |0,_,a,b,c,d=>(a,b,c,d)
 |f+1,k,a,b,c,d=>if R.sq u W k=0 then(a,b,c,d)else
  if k%4=0 then tay u W f (k+1) (a+R.sq u W k) b c d else if k%4=1 then tay u W f (k+1) a (b+R.sq u W k) c d
  else if k%4=2 then tay u W f (k+1) a b (c+R.sq u W k) d else tay u W f (k+1) a b c (d+R.sq u W k)
theorem Mn{u W:Nat}(h:u<=W):∀k,R.sq u W k<=W
 |0=>cBP _
 |k+1=>cCL (R.Ml h k) (Mn h k)
theorem L{w:Nat}{a0:List Int}(hn:M6.cN a0)(hl:a0.length<=4096)(hu:M6.val a0<=2^w)(hw:w<=150000):∀(f k a b c d:Nat),k+f<=200000->R.sq (M6.val a0) (2^w) (k+f)=0 ->
  a<=k*2^w->b<=k*2^w->c<=k*2^w->d<=k*2^w ->
  L4 a0 w (M6.dg a) (M6.dg b) (M6.dg c) (M6.dg d) (M6.dg (R.sq (M6.val a0) (2^w) k)) k=some [.s (.ints .u64 (M6.dg ((tay (M6.val a0) (2^w) f k a b c d).2.1-(tay (M6.val a0) (2^w) f k a b c d).2.2.2))),.s (.ints .u64 (M6.dg ((tay (M6.val a0) (2^w) f k a b c d).1-(tay (M6.val a0) (2^w) f k a b c d).2.2.1)))]:=by
 intro f
 induction f with
 |zero =>
  intro k a b c d hk h0 ha hb hc hd;have pw:k*2^w<2^(w+18):=by
   rw[cGP,cGN];exact cPZ (by omega) (cEP (by decide))
  rw[cCN]at h0;rw[nR,h0,M6.cD,aL (by simp)];simp only[aI];rw[gP ⟨M6.aY _,M6.aY _,eB.mS (cIE ha pw) (by omega),eB.mS (cIE hc pw) (by omega)⟩,gP ⟨M6.aY _,M6.aY _,eB.mS (cIE hb pw) (by omega),eB.mS (cIE hd pw) (by omega)⟩];simp only[M6.bD];rfl
 |succ f ih =>
  intro k a b c d hk h0 ha hb hc hd;have pw:∀j,j<=200000->j*2^w<2^(w+18):=fun j hj=>by
   rw[cGP,cGN];exact cPZ (by omega) (cEP (by decide))
  have hs:(k+1)*2^w=k*2^w+2^w:=by rw[cCJ,cFT]
  have ht:=Mn hu k;have lt:(M6.dg (R.sq (M6.val a0) (2^w) k)).length<=4096:=gA (k:=4096) (cCL (dP.2 (cIE ht (cII (by decide) (cPX w)))) (by omega));rw[nR];unfold tay
  by_cases hz:R.sq (M6.val a0) (2^w) k=0
  ·rw[hz,M6.cD,aL (by simp),if_pos rfl];simp only[aI];rw[gP ⟨M6.aY _,M6.aY _,eB.mS (cIE ha (pw k (by omega))) (by omega),eB.mS (cIE hc (pw k (by omega))) (by omega)⟩,gP ⟨M6.aY _,M6.aY _,eB.mS (cIE hb (pw k (by omega))) (by omega),eB.mS (cIE hd (pw k (by omega))) (by omega)⟩];simp only[M6.bD]
  ·have bDX:(M6.dg (R.sq (M6.val a0) (2^w) k)).length≠0:=fun h=>hz (M6.gJ.1 h)
   have em:(k:Int).tmod 4=((k%4:Nat):Int):=by rw[cJE (by omega)];omega
   have w1:u64.wrap ((k:Int)+1)=((k+1:Nat):Int):=by rw[wrap_u64];omega
   have ew:(w:Int).toNat=w:=cFM _;have ek:(((k+1:Nat)):Int).toNat=k+1:=cFM _;have es:R.sq (M6.val a0) (2^w) k*M6.val a0/2^w/(k+1)=R.sq (M6.val a0) (2^w) (k+1):=rfl;have bVX:(M6.dg (R.sq (M6.val a0) (2^w) k*M6.val a0/2^w)).length<=8192:=by
    have:R.sq (M6.val a0) (2^w) k*M6.val a0/2^w<=R.sq (M6.val a0) (2^w) k:=Nat.div_le_of_le_mul (by rw[cGN (2^w)];exact cED _ hu);exact eB.mS (cIE (cCL this ht) (cII (by decide) (cPX w))) (by omega)
   rw[aM];simp only[aI,em,w1,ew,ek,M6.bD,es];rw[if_neg hz];have bAR:k+1+f=k+(f+1):=by omega
   have Ty:∀x,x<=k*2^w->x+R.sq (M6.val a0) (2^w) k<=(k+1)*2^w/\dK.nS (x+R.sq (M6.val a0) (2^w) k)=true/\(M6.dg x).length<=8192:=fun x hx=>by
    have h1:x+R.sq (M6.val a0) (2^w) k<=(k+1)*2^w:=by omega
    exact⟨h1,eB.aXG (cIE h1 (pw (k+1) (by omega))) (by omega),eB.mS (cIE hx (pw k (by omega))) (by omega)⟩
   have up:∀x,x<=k*2^w->x<=(k+1)*2^w:=fun x hx=>by omega
   have g1:M6.cN (M6.dg (R.sq (M6.val a0) (2^w) k))/\M6.cN a0/\(M6.dg (R.sq (M6.val a0) (2^w) k)).length<=4096/\a0.length<=4096/\(0:Int)<=w/\(w:Int)<4611686018427387904:=⟨M6.aY _,hn,lt,hl,by omega,by omega⟩;have g2:M6.cN (M6.dg (R.sq (M6.val a0) (2^w) k*M6.val a0/2^w))/\(M6.dg (R.sq (M6.val a0) (2^w) k*M6.val a0/2^w)).length<=8192/\(0:Int)<((k+1:Nat):Int)/\((k+1:Nat):Int)<18446744073709551616:=⟨M6.aY _,bVX,by omega,by omega⟩;have h4:k%4<4:=cDX _ (by decide)
   by_cases c0:k%4=0
   ·obtain⟨x1,x2,x3⟩:=Ty a ha;rw[aM,gP ⟨M6.aY _,M6.aY _,x3,by omega⟩,aM,x2,cond_true,gP g1,gP g2,if_pos c0];exact ih (k+1) _ _ _ _ (by omega) (by rw[bAR];exact h0) x1 (up b hb) (up c hc) (up d hd)
   ·rw[aL,if_neg c0]
    by_cases c1:k%4=1
    ·obtain⟨x1,x2,x3⟩:=Ty b hb;rw[aM,gP ⟨M6.aY _,M6.aY _,x3,by omega⟩,aL,aM,x2,cond_true,gP g1,gP g2,if_pos c1];exact ih (k+1) _ _ _ _ (by omega) (by rw[bAR];exact h0) (up a ha) x1 (up c hc) (up d hd)
    ·rw[aL,if_neg c1]
     by_cases c2:k%4=2
     ·obtain⟨x1,x2,x3⟩:=Ty c hc;rw[aM,gP ⟨M6.aY _,M6.aY _,x3,by omega⟩,aL,aL,aM,x2,cond_true,gP g1,gP g2,if_pos c2];exact ih (k+1) _ _ _ _ (by omega) (by rw[bAR];exact h0) (up a ha) (up b hb) x1 (up d hd)
     ·obtain⟨x1,x2,x3⟩:=Ty d hd;rw[aL,aM,gP ⟨M6.aY _,M6.aY _,x3,by omega⟩,aL,aL,aL,aM,x2,cond_true,gP g1,gP g2,if_neg c2];exact ih (k+1) _ _ _ _ (by omega) (by rw[bAR];exact h0) (up a ha) (up b hb) (up c hc) x1
def aHV(u w:Nat):Nat:=(tay u (2^w) (w+1) 0 0 0 0 0).2.1-(tay u (2^w) (w+1) 0 0 0 0 0).2.2.2
def aHW(u w:Nat):Nat:=(tay u (2^w) (w+1) 0 0 0 0 0).1-(tay u (2^w) (w+1) 0 0 0 0 0).2.2.1
def sp(a:List Int)(w:Int):Prop×List D:=(M6.cN a/\0<=w/\w<=150000/\2*M6.val a<=2^w.toNat,[.s (.ints .u64 (M6.dg (aHV (M6.val a) w.toNat))),.s (.ints .u64 (M6.dg (aHW (M6.val a) w.toNat)))])
theorem spec:fN E f237 aE (pI .u64) (pN .i64) sp:=by
 rintro a w ⟨hn,w0,w1,hu⟩;refine(start a w).trans ?_;obtain⟨w,rfl⟩:=cGR w0;rw[cFM]at hu;have hl:a.length<=4096:=by
  have e:M6.dg (M6.val a)=a:=by first |exact hn |exact Eq.symm hn
  rw[<-e];exact gA (k:=4096) (cCL (dP.2 (show M6.val a<2^(w+1) by rw[cGO];have:0<2^w:=cEP (by decide);omega)) (by omega))
 have so:lN.kR 1 w=true:=by
  unfold lN.kR;rw[show bl 1=1 from rfl,decide_eq_true (show 1+w<=524288 by omega),cHO]
 have l1:(M6.dg 1).length<=8192:=eB.mS (k:=1) (by decide) (by decide);unfold sp;simp only[M6.bD,cFM,so,cond_true,cFT,aI];rw[gP ⟨by decide,by decide⟩,gP ⟨M6.aY _,l1,by omega,by omega⟩,<-M6.cD];exact L hn hl (by omega) (by omega) (w+1) 0 0 0 0 0 (by omega) (by rw[cBR];exact R.aET hu) (by omega) (by omega) (by omega) (by omega)
def aJ:dJ:=orc2 (pI .u64) (pN .i64) sp
theorem ok:OK 237 aJ:=(dY E aE (aA lN.ok (aA pQ.ok (aA wF.ok (aA Pk.ok (aA oR.ok (aA wC.ok aC)))))) func237).lD rfl spec
end TSums
namespace aW
def E:=mE [(203,Cr.aJ),(235,THalvings.aJ),(236,wU.aJ),(237,TSums.aJ),(98,lN.aJ),(95,pQ.aJ),(238,Pk.aJ),(102,wC.aJ)] 91 [41,56,59,74,84] [(10,[4,5,7,10,12,50,51])] []
def aE:=bd f205
theorem aT:Nk E aE:=nk
def Jm a b c d e f g:=qA E f205 aE 10 [jK a,jK b,bP c,bP d,jK e,bP f,bP g]
theorem start a c d b:aF E f205 aE [D.agg [sc (bool a),ints u64 c,sc (int i64 d)],D.s (sc (int i64 b))]=letI H:=dv (a,c,d);letI G:=M6.dg 1;aN (aU (a,c,d)) (aD (if H.fst=0 then(0:Int)else d+(↑(bl (M6.val c)):Int)-(1:Int)) fun e=>aN (i64.wrap (i64.wrap (b+80)-if 0<e then(0:Int)else e)<=150000) (aD (↑(THalvings.hlv (i64.wrap (i64.wrap (b+80)-if 0<e then(0:Int)else e)) 200 4):Int) fun f=>letI B:=i64.wrap (i64.wrap (b+80)-match BinOp.lss with |BinOp.gtr=>if(0:Int)>e then(0:Int)else e |x=>if 0<e then(0:Int)else e)+i64.wrap ((2:Int)*f);letI A:=i64.wrap (i64.wrap (b+80)-if 0<e then(0:Int)else e)+i64.wrap ((2:Int)*f);letI F:=i64.wrap A+f;letI C:=i64.wrap F;aN (aU (a,c,d)/\(-1099511627776:Int)<=i64.wrap A/\i64.wrap A<=1099511627776/\(0<=(a,c,d).snd.snd+i64.wrap B->fit (H.fst.natAbs*(2:Nat)^((a,c,d).snd.snd+i64.wrap B).toNat)=true)) (aD (M6.dg (wU.aSQ H (i64.wrap A))) fun g=>aN (M6.cN g/\0<=i64.wrap F/\i64.wrap F<=150000/\(2:Nat)*M6.val g<=(2:Nat)^C.toNat) (aD (M6.dg (TSums.aHV (M6.val g) C.toNat)) fun h=>aD (M6.dg (TSums.aHW (M6.val g) C.toNat)) fun i=>aN ((0:Int)<=(1:Int)/\(1:Int)<(18446744073709551616:Int)) (aN (M6.cN G/\G.length<=8192/\0<=i64.wrap F/\i64.wrap F<4611686018427387904) (aD (bif lN.kR (M6.val G) C.toNat then M6.dg (M6.val G*(2:Nat)^C.toNat)else []) fun j=>aW.Jm h i C f j f 0)))))):=eJ aT
theorem tB a b c d e f g:Jm a b c d e f g=letI B:=M6.dg 1;letI A:=i64.wrap ((2:Int)*d)+22;aB (decide (g<f)) (aN (M6.cN a/\M6.cN b/\a.length<=4096/\b.length<=4096/\0<=c/\c<4611686018427387904) (aD (M6.dg (M6.val a*M6.val b/(2:Nat)^c.toNat)) fun h=>aN (M6.cN h/\h.length<=8192/\(0:Int)<=(1:Int)/\(1:Int)<(4611686018427387904:Int)) (aD (bif lN.kR (M6.val h) 1 then M6.dg (M6.val h*2)else []) fun i=>aN (M6.cN a/\M6.cN a/\a.length<=4096/\a.length<=4096/\0<=c/\c<4611686018427387904) (aD (M6.dg (M6.val a*M6.val a/(2:Nat)^c.toNat)) fun j=>aN (M6.cN j/\j.length<=8192/\(0:Int)<=(1:Int)/\(1:Int)<(4611686018427387904:Int)) (aD (bif lN.kR (M6.val j) 1 then M6.dg (M6.val j*2)else []) fun k=>aN (M6.cN e/\M6.cN k/\e.length<=8192/\k.length<=8192) (aD (M6.dg (M6.val e-M6.val k)) fun l=>aW.Jm i l c d e f (i64.wrap (g+1)))))))) (aN ((0:Int)<=(1:Int)/\(1:Int)<(18446744073709551616:Int)) (aN (M6.cN B/\B.length<=8192/\0<=i64.wrap A/\i64.wrap A<4611686018427387904) (aD (bif lN.kR (M6.val B) (i64.wrap A).toNat then M6.dg (M6.val B*(2:Nat)^(i64.wrap A).toNat)else []) fun m=>some [D.s (ints u64 a),D.s (ints u64 b),D.s (ints u64 m),D.s (sc (int i64 c))]))):=lJ aT
def jO(x:Int×Int):Int:=if x.1=0 then 0 else x.2+(bl x.1.natAbs:Nat)-1
def w0(x:Int×Int)(p:Int):Int:=p+80-if 0<jO x then 0 else jO x
def hv(x:Int×Int)(p:Int):Nat:=THalvings.hlv (w0 x p) 200 4
def w1(x:Int×Int)(p:Int):Int:=w0 x p+2*(hv x p:Nat)
def w2(x:Int×Int)(p:Int):Int:=w1 x p+(hv x p:Nat)
def bU(x:Int×Int)(p:Int):Nat:=wU.aSQ x (w1 x p)
def Ec(x:Int×Int)(p:Int):Nat×Nat:=R.Is (2^(w2 x p).toNat) (hv x p) (TSums.aHV (bU x p) (w2 x p).toNat) (TSums.aHW (bU x p) (w2 x p).toNat)
def sp(x:gW)(p:Int):Prop×List D:=(aU x/\(1<=p/\p<=70000)/\(-70000<=jO (dv x)/\jO (dv x)<=100)/\bU (dv x) p<=2^(w1 (dv x) p).toNat,
 [.s (.ints .u64 (M6.dg (Ec (dv x) p).1)),.s (.ints .u64 (M6.dg (Ec (dv x) p).2)),.s (.ints .u64 (M6.dg (2^(2*hv (dv x) p+22)))),.s (.sc (.int .i64 (w2 (dv x) p)))])
theorem aCO(w:Int):∀f h,THalvings.hlv w f h<=h+f/\h<=THalvings.hlv w f h
 |0,h=>⟨cBP _,cBP _⟩
 |f+1,h=>by
  unfold THalvings.hlv;have:=aCO w f (h+1);split <;> omega
theorem aMD{u W:Nat}(hu:u<=W):∀f k a b c d,a<=k*W->b<=k*W->c<=k*W->d<=k*W ->
  (TSums.tay u W f k a b c d).1<=(k+f)*W/\(TSums.tay u W f k a b c d).2.1<=(k+f)*W
 |0,k,a,b,c,d,ha,hb,_,_=>⟨ha,hb⟩
 |f+1,k,a,b,c,d,ha,hb,hc,hd=>by
  have hs:=TSums.Mn hu k;have e:(k+1)*W=k*W+W:=by rw[cCJ,cFT]
  have e2:k*W<=(k+(f+1))*W:=cDE _ (by omega);have e3:k+1+f=k+(f+1):=by omega
  have r:=fun a b c d h1 h2 h3 h4=>e3▸aMD hu f (k+1) a b c d h1 h2 h3 h4
  unfold TSums.tay;split
  ·exact⟨cCL ha e2,cCL hb e2⟩
  ·split
   ·exact r _ _ _ _ (by omega) (by omega) (by omega) (by omega)
   ·split
    ·exact r _ _ _ _ (by omega) (by omega) (by omega) (by omega)
    ·split
     ·exact r _ _ _ _ (by omega) (by omega) (by omega) (by omega)
     ·exact r _ _ _ _ (by omega) (by omega) (by omega) (by omega)
theorem L{w:Nat}(hw:w<=150000)(x3:Nat)(h3:x3<=1000):∀(d k s c:Nat),k+d=x3->s<2^(w+20*(k+1))->c<2^(w+18)->k+d<=210 ->
  Jm (M6.dg s) (M6.dg c) w x3 (M6.dg (2^w)) x3 k=some [.s (.ints .u64 (M6.dg (R.Is (2^w) d s c).1)),.s (.ints .u64 (M6.dg (R.Is (2^w) d s c).2)),.s (.ints .u64 (M6.dg (2^(2*x3+22)))),.s (.sc (.int .i64 w))]
 |0,k,s,c,hk,hs,hc,hb=>by
  have e1:i64.wrap (2*(x3:Int))=2*(x3:Int):=wrap_i64;have e2:i64.wrap (2*(x3:Int)+22)=((2*x3+22:Nat):Int):=by rw[wrap_i64];omega
  have so:lN.kR 1 (2*x3+22)=true:=by
   unfold lN.kR;rw[show bl 1=1 from rfl,decide_eq_true (show 1+(2*x3+22)<=524288 by omega),cHO]
  have l1:(M6.dg 1).length<=8192:=eB.mS (k:=1) (by decide) (by decide);rw[tB,aL,e1,e2];simp only[aI,M6.bD,cFM,so,cond_true,cFT];rw[gP ⟨by decide,by decide⟩,gP ⟨M6.aY _,l1,by omega,by omega⟩];rfl
 |d+1,k,s,c,hk,hs,hc,hb=>by
  have e:i64.wrap ((k:Int)+1)=((k+1:Nat):Int):=by rw[wrap_i64];omega
  have ls:(M6.dg s).length<=4096:=gA (k:=4096) (cCL (dP.2 hs) (by omega));have lc:(M6.dg c).length<=4096:=gA (k:=4096) (cCL (dP.2 hc) (by omega));have W0:0<2^w:=cEP (by decide);have b1:s*c/2^w<2^(w+20*(k+1)+18):=by
   apply cHJ;have:2^w*2^(w+20*(k+1)+18)=2^(w+20*(k+1))*2^(w+18):=by rw[<-cGP,<-cGP];congr 1;omega
   rw[this];exact cKD hs hc
  have b2:s*s/2^w<2^(w+40*(k+1)):=by
   apply cHJ;have:2^w*2^(w+40*(k+1))=2^(w+20*(k+1))*2^(w+20*(k+1)):=by rw[<-cGP,<-cGP];congr 1;omega
   rw[this];exact cKD hs hs
  have so:∀n,bl n<=500000->lN.kR n 1=true:=fun n hn=>by
   unfold lN.kR;rw[decide_eq_true (show bl n+1<=524288 by omega),cHO]
  have f1:=so _ (cCL (dP.2 b1) (by omega));have f2:=so _ (cCL (dP.2 b2) (by omega));have b3:s*s/2^w*2<2^(w+40*(k+1)+1):=by rw[cGO];omega
  have b4:s*c/2^w*2<2^(w+20*(k+1+1)):=by
   have:2^(w+20*(k+1)+18)*2<=2^(w+20*(k+1+1)):=by rw[<-cGO];exact cEQ (by decide) (by omega)
   omega
  have b5:2^w-s*s/2^w*2<2^(w+18):=cIE (cIA _ _) (cII (by decide) (by omega));rw[tB,aM];simp only[aI,M6.bD,cFM,f1,f2,cond_true,e];rw[gP ⟨M6.aY _,M6.aY _,ls,lc,by omega,by omega⟩,gP ⟨M6.aY _,eB.mS b1 (by omega),by decide,by decide⟩,gP ⟨M6.aY _,M6.aY _,ls,ls,by omega,by omega⟩,gP ⟨M6.aY _,eB.mS b2 (by omega),by decide,by decide⟩,
   gP ⟨M6.aY _,M6.aY _,eB.mS (cII (by decide) (cPX w)) (by omega),eB.mS b3 (by omega)⟩]
  have r:=L hw x3 h3 d (k+1) (s*c/2^w*2) (2^w-s*s/2^w*2) (by omega) b4 b5 (by omega);rw[R.Sx,cGN 2 (s*c/2^w),cGN 2 (s*s/2^w)];exact r
theorem spec:fN E f205 aE kA (pN .i64) sp:=by
 rintro x p ⟨hx,⟨p0,p1⟩,⟨t0,t1⟩,hu⟩;refine(start x.1 x.2.1 x.2.2 p).trans ?_;have he:=hx.2.1;have ha:(dv x).1.natAbs=M6.val x.2.1:=iY (x.1,x.2.1);have hT:(if(dv (x.1,x.2.1,x.2.2)).1=0 then 0 else x.2.2+(bl (M6.val x.2.1):Int)-1)=jO (dv x):=by rw[<-ha];rfl
 have bEH:w0 (dv x) p=p+80-if 0<jO (dv x)then 0 else jO (dv x):=rfl
 have r0:1<=w0 (dv x) p/\w0 (dv x) p<=140080:=by rw[bEH];split <;> omega
 have e1:i64.wrap (p+80)=p+80:=wrap_i64;have e2:i64.wrap (p+80-if 0<jO (dv x)then 0 else jO (dv x))=w0 (dv x) p:=by rw[<-bEH];exact wrap_i64
 have hh:=aCO (w0 (dv x) p) 200 4;have hv0:THalvings.hlv (w0 (dv x) p) 200 4=hv (dv x) p:=rfl;rw[hv0]at hh;have bIB:w1 (dv x) p=w0 (dv x) p+2*((hv (dv x) p:Nat):Int):=rfl;have bKU:w2 (dv x) p=w1 (dv x) p+((hv (dv x) p:Nat):Int):=rfl;have e3:i64.wrap (2*((hv (dv x) p:Nat):Int))=2*((hv (dv x) p:Nat):Int):=wrap_i64;have e4:i64.wrap (w0 (dv x) p+2*((hv (dv x) p:Nat):Int))=w1 (dv x) p:=by rw[bIB];exact wrap_i64
 have e5:i64.wrap (w1 (dv x) p+((hv (dv x) p:Nat):Int))=w2 (dv x) p:=by rw[bKU];exact wrap_i64
 have hU:wU.aSQ (dv x) (w1 (dv x) p)=bU (dv x) p:=rfl;have bAB:(x.1,x.2.1,x.2.2)=x:=rfl;simp only[hT,aI,e1,e2,hv0,e3,e4,e5,bAB,M6.bD,hU];obtain⟨w,hw⟩:=cGR (show 0<=w2 (dv x) p by omega);have bZR:2*bU (dv x) p<=2^w:=by
  have:2^(w1 (dv x) p).toNat*2<=2^w:=by rw[<-cGO];exact cEQ (by decide) (by omega)
  omega
 have so:lN.kR 1 w=true:=by
  unfold lN.kR;rw[show bl 1=1 from rfl,decide_eq_true (show 1+w<=524288 by omega),cHO]
 have l1:(M6.dg 1).length<=8192:=eB.mS (k:=1) (by decide) (by decide);have aOV:0<=x.2.2+w1 (dv x) p->fit ((dv x).1.natAbs*2^(x.2.2+w1 (dv x) p).toNat)=true:=fun hc=>by
  have:bU (dv x) p=(dv x).1.natAbs*2^(x.2.2+w1 (dv x) p).toNat:=by
   rw[<-hU];unfold wU.aSQ;exact if_pos hc
  rw[<-this];exact decide_eq_true (cCL (dP.2 (cIE hu (cII (by decide) (cPX _)))) (by omega))
 unfold sp Ec;dsimp only;have hwb:w<=141000:=by omega
 rw[hw];rw[cFM,so,cond_true,cFT];rw[gP hx,gP,gP ⟨hx,by omega,by omega,aOV⟩,gP ⟨M6.aY _,by omega,by omega,bZR⟩,gP ⟨by decide,by decide⟩,gP ⟨M6.aY _,l1,by omega,by omega⟩];obtain⟨g1,g2⟩:=aMD (u:=bU (dv x) p) (W:=2^w) (by omega) (w+1) 0 0 0 0 0 (by omega) (by omega) (by omega) (by omega);have pw:(0+(w+1))*2^w<2^(w+18):=by
  rw[cGP,cGN];exact cPZ (by omega) (cEP (by decide))
 have hs:TSums.aHV (bU (dv x) p) w<2^(w+18):=cIE (cCL (cIA _ _) g2) pw;have hc:TSums.aHW (bU (dv x) p) w<2^(w+18):=cIE (cCL (cIA _ _) g1) pw;exact L (by omega) (hv (dv x) p) (by omega) (hv (dv x) p) 0 _ _ (by omega) (cCM hs (cEQ (by decide) (by omega))) hc (by omega)
def aJ:dJ:=orc2 kA (pN .i64) sp
theorem ok:OK 205 aJ:=(dY E aE (aA Cr.ok (aA THalvings.ok (aA wU.ok (aA TSums.ok (aA lN.ok (aA pQ.ok (aA Pk.ok (aA wC.ok aC)))))))) func205).lD rfl spec
end aW
namespace aAU
def E:=mE [(239,Cs.aJ),(45,mZ.aJ),(240,cX.aJ)] 25 [22] [] []
def aE:=bd f209
theorem aT:Nk E aE:=nk
theorem start a d e b c:aF E f209 aE [D.agg [sc (bool a),ints u64 d,sc (int i64 e)],D.s (sc (int i64 b)),D.s (sc (bool c))]=letI A:=cX.oY c (wv (a,d)) e b;letI B:=bif iN A.fst A.snd then aQ A.fst A.snd else((0:Int),(0:Int));aN True (aD (decide (1<=b)&&decide (b<=70000)) fun f=>aB (!f) (some [D.agg [sc (bool false),sc (slice none 0 0),sc (int i64 0)],D.s (sc (int i64 1))]) (aN (aU (a,d,e)) (aN (iE (a,d)/\((-4611686018427387904:Int)<=e/\e<4611686018427387904)/\1<=b/\b<=70000) (aD (isNeg B.fst) fun g=>aD (M6.dg B.fst.natAbs) fun h=>aD B.snd fun i=>aD (bif iN A.fst A.snd then(0:Int)else(5:Int)) fun j=>some [D.agg [sc (bool g),ints u64 h,sc (int i64 i)],D.s (sc (int i64 j))])))):=eJ aT
def sp(x:gW)(p:Int)(up:Bool):Prop×List D:=(aU x/\1<=p/\p<=70000,dE (iN (cX.oY up (dv x).1 (dv x).2 p).1 (cX.oY up (dv x).1 (dv x).2 p).2) (aQ (cX.oY up (dv x).1 (dv x).2 p).1 (cX.oY up (dv x).1 (dv x).2 p).2))
theorem spec:oG E f209 aE kA (pN .i64) pB sp:=by
 rintro x p up ⟨hx,h1,h2⟩;have he:=hx.2.1;refine(start x.1 x.2.1 x.2.2 p up).trans ?_;simp only[aI];rw[gP trivial,decide_eq_true h1,decide_eq_true h2,cER,cDP,bF,gP hx,gP ⟨hx.Fp,⟨by omega,by omega⟩,h1,h2⟩];rfl
def aJ:dJ:=orc3 kA (pN .i64) pB sp
theorem ok:OK 209 aJ:=(dY E aE (aA Cs.ok (aA mZ.ok (aA cX.ok aC))) func209).xN rfl spec
end aAU
namespace Qb
def E:=mE [(209,aAU.aJ)] 11 [8] [] []
def aE:=bd f162
theorem aT:Nk E aE:=nk
theorem start a c d b:aF E f162 aE [D.agg [sc (bool a),ints u64 c,sc (int i64 d)],D.s (sc (int i64 b))]=letI A:=cX.oY false (dv (a,c,d)).fst (dv (a,c,d)).snd b;letI B:=bif iN A.fst A.snd then aQ A.fst A.snd else((0:Int),(0:Int));aN (aU (a,c,d)/\1<=b/\b<=70000) (some [D.agg [sc (bool (isNeg B.fst)),ints u64 (M6.dg B.fst.natAbs),sc (int i64 B.snd)],D.s (sc (int i64 (bif iN A.fst A.snd then(0:Int)else(5:Int))))]):=eJ aT
def sp(x:gW)(p:Int):Prop×List D:=(aU x/\1<=p/\p<=70000,dE (iN (cX.oY false (dv x).1 (dv x).2 p).1 (cX.oY false (dv x).1 (dv x).2 p).2) (aQ (cX.oY false (dv x).1 (dv x).2 p).1 (cX.oY false (dv x).1 (dv x).2 p).2))
theorem spec:fN E f162 aE kA (pN .i64) sp:=by
 intro x p h;refine(start x.1 x.2.1 x.2.2 p).trans ((gP h).trans ?_);rfl
def aJ:dJ:=orc2 kA (pN .i64) sp
theorem ok:OK 162 aJ:=(dY E aE (aA aAU.ok aC) func162).lD rfl spec
end Qb
namespace bDK
def E:=mE [(209,aAU.aJ)] 11 [8] [] []
def aE:=bd f163
theorem aT:Nk E aE:=nk
theorem start a c d b:aF E f163 aE [D.agg [sc (bool a),ints u64 c,sc (int i64 d)],D.s (sc (int i64 b))]=letI A:=cX.oY true (dv (a,c,d)).fst (dv (a,c,d)).snd b;letI B:=bif iN A.fst A.snd then aQ A.fst A.snd else((0:Int),(0:Int));aN (aU (a,c,d)/\1<=b/\b<=70000) (some [D.agg [sc (bool (isNeg B.fst)),ints u64 (M6.dg B.fst.natAbs),sc (int i64 B.snd)],D.s (sc (int i64 (bif iN A.fst A.snd then(0:Int)else(5:Int))))]):=eJ aT
def sp(x:gW)(p:Int):Prop×List D:=(aU x/\1<=p/\p<=70000,dE (iN (cX.oY true (dv x).1 (dv x).2 p).1 (cX.oY true (dv x).1 (dv x).2 p).2) (aQ (cX.oY true (dv x).1 (dv x).2 p).1 (cX.oY true (dv x).1 (dv x).2 p).2))
theorem spec:fN E f163 aE kA (pN .i64) sp:=by
 intro x p h;refine(start x.1 x.2.1 x.2.2 p).trans ((gP h).trans ?_);rfl
def aJ:dJ:=orc2 kA (pN .i64) sp
theorem ok:OK 163 aJ:=(dY E aE (aA aAU.ok aC) func163).lD rfl spec
end bDK
namespace bQ
def E:=mE [(102,wC.aJ),(100,wF.aJ),(50,kB.aJ),(162,Qb.aJ),(163,bDK.aJ),(158,Ku.aJ),(14,aSA.aJ)] 71 [] [] []
def aE:=bd f206
theorem aT:Nk E aE:=nk
theorem start a b c d:aF E f206 aE [D.s (ints u64 a),D.s (ints u64 b),D.s (sc (int i64 c)),D.s (sc (int i64 d))]=letI P:=M6.val a+M6.val b;letI N:=aQ 1 0;letI O:=M6.dg N.fst.natAbs;letI K:=M6.cN a/\M6.cN b/\a.length<=8192/\b.length<=8192;letI I:=i64.wrap ((0:Int)-c);aN K (aD (M6.dg (M6.val a-M6.val b)) fun e=>letI C:=bif iN (wv (false,e)) I then aQ (wv (false,e)) I else((0:Int),(0:Int));aN K (aD (bif dK.nS P then M6.dg P else []) fun f=>letI F:=bif iN (wv (false,f)) I then aQ (wv (false,f)) I else((0:Int),(0:Int));aN (iE (false,e)/\(-9223372036854775808:Int)<=i64.wrap ((0:Int)-c)/\i64.wrap ((0:Int)-c)<9223372036854775808) (aD (isNeg C.fst) fun g=>aD (M6.dg C.fst.natAbs) fun h=>aD C.snd fun i=>letI A:=cX.oY false (dv (g,h,i)).fst (dv (g,h,i)).snd d;letI G:=bif iN A.fst A.snd then aQ A.fst A.snd else((0:Int),(0:Int));aN (iE (false,f)/\(-9223372036854775808:Int)<=i64.wrap ((0:Int)-c)/\i64.wrap ((0:Int)-c)<9223372036854775808) (aD (isNeg F.fst) fun j=>aD (M6.dg F.fst.natAbs) fun k=>aD F.snd fun l=>letI B:=cX.oY true (dv (j,k,l)).fst (dv (j,k,l)).snd d;letI H:=bif iN B.fst B.snd then aQ B.fst B.snd else((0:Int),(0:Int));aN (aU (g,h,i)/\1<=d/\d<=70000) (aD (isNeg G.fst) fun m=>aD (M6.dg G.fst.natAbs) fun n=>aD G.snd fun o=>aN (aU (j,k,l)/\1<=d/\d<=70000) (aD (isNeg H.fst) fun p=>aD (M6.dg H.fst.natAbs) fun q=>aD H.snd fun r=>aN ((-9223372036854775808:Int)<=(1:Int)/\(1:Int)<(9223372036854775808:Int)) (aD (isNeg N.fst) fun s=>aD O fun t=>aD N.snd fun u=>aN (aU (p,q,r)/\aU (s,t,u)) (aD (lF (bV.oD (dv (p,q,r)) (dv (s,t,u))) (bV.oC (dv (p,q,r)) (dv (s,t,u)))) fun v=>aB (decide (0<v)) (aN ((-9223372036854775808:Int)<=(1:Int)/\(1:Int)<(9223372036854775808:Int)) (aD (isNeg N.fst) fun w=>aD O fun x=>aD N.snd fun y=>some [D.agg [sc (bool m),ints u64 n,sc (int i64 o),sc (bool w),ints u64 x,sc (int i64 y)]])) (some [D.agg [sc (bool m),ints u64 n,sc (int i64 o),sc (bool p),ints u64 q,sc (int i64 r)]]))))))))):=eJ aT
def Ks(a f:Nat)(w:Int):Int×Int:=aQ ((a-f:Nat):Int) (-w)
def Eg(a f:Nat)(w:Int):Int×Int:=aQ ((a+f:Nat):Int) (-w)
def zO(p:Int×Int):Int×Int:=bif decide (0<eZ p (1,0))then(1,0)else p
def sp(a f:List Int)(w q:Int):Prop×List D:=(M6.cN a/\M6.cN f/\bl (M6.val a)<=500000/\bl (M6.val f)<=500000/\(0<=w/\w<=500000)/\(1<=q/\q<=70000)/\yQ false (Ks (M6.val a) (M6.val f) w) q=true/\yQ true (Eg (M6.val a) (M6.val f) w) q=true/\kQ (shD true (Eg (M6.val a) (M6.val f) w) q),
 [wY (shD false (Ks (M6.val a) (M6.val f) w) q) (zO (shD true (Eg (M6.val a) (M6.val f) w) q))])
theorem spec:Rp E f206 aE (pI .u64) (pI .u64) (pN .i64) (pN .i64) sp:=by
 rintro a f w q ⟨ha,hf,ba,bf,⟨w0,w1⟩,⟨q0,q1⟩,i1,i2,pu⟩;refine(start a f w q).trans ?_;have la:a.length<=8192:=by
  have e:M6.dg (M6.val a)=a:=by first |exact ha |exact Eq.symm ha
  rw[<-e];exact gA (k:=8192) (by omega)
 have lf:f.length<=8192:=by
  have e:M6.dg (M6.val f)=f:=by first |exact hf |exact Eq.symm hf
  rw[<-e];exact gA (k:=8192) (by omega)
 have vN:∀n:Nat,wv (false,M6.dg n)=(n:Int):=fun n=>by show(M6.val (M6.dg n):Int)=n;rw[M6.bD]
 have wN:∀n:Nat,bl n<=524288->iE (false,M6.dg n):=fun n hn=>by
  have:=gL (z:=(n:Int)) (by rw[cHH];exact hn);rw[gH.2 (by omega),cHH]at this;exact this
 have bs:bl (M6.val a-M6.val f)<=500000:=cCL (gF (cIA _ _)) ba;have bt:bl (M6.val a+M6.val f)<=500001:=by
  have h1:=dP.1 ba;have h2:=dP.1 bf;refine dP.2 ?_;rw[cGO 2 500000];generalize 2^500000=Q at *;omega
 have ok:dK.nS (M6.val a+M6.val f)=true:=decide_eq_true (gA (k:=8192) (by omega));have ew:i64.wrap (0-w)=-w:=by rw[wrap_i64];omega
 have j1:iN ((M6.val a-M6.val f:Nat):Int) (-w)=true:=iL (by omega) (by rw[cHH];omega);have j2:iN ((M6.val a+M6.val f:Nat):Int) (-w)=true:=iL (by omega) (by rw[cHH];omega);have p1:kQ (Ks (M6.val a) (M6.val f) w):=iF j1 (by rw[cHH];omega);have p2:kQ (Eg (M6.val a) (M6.val f) w):=iF j2 (by rw[cHH];omega);have c1:=dZ (Ks (M6.val a) (M6.val f) w);have c2:=dZ (Eg (M6.val a) (M6.val f) w);have n1:aQ 1 0=(1,0):=by decide +kernel
 have pn:kQ (1,0):=⟨by decide +kernel,⟨by decide,by decide⟩,fun h=>absurd h (by decide),fun _=>by decide⟩;have d1:=dW pn;have v1:=dZ ((1,0):Int×Int);rw[gP ⟨ha,hf,la,lf⟩,aI,gP ⟨ha,hf,la,lf⟩];simp only[aI,ok,cond_true,vN,ew,j1,j2,n1];rw[gP ⟨wN _ (by omega),by omega,by omega⟩,gP ⟨wN _ (by omega),by omega,by omega⟩];have eL:aQ ((M6.val a-M6.val f:Nat):Int) (-w)=Ks (M6.val a) (M6.val f) w:=rfl;have eH:aQ ((M6.val a+M6.val f:Nat):Int) (-w)=Eg (M6.val a) (M6.val f) w:=rfl;unfold sp zO;dsimp only;rw[eL,eH];generalize Ks (M6.val a) (M6.val f) w=L at *;generalize Eg (M6.val a) (M6.val f) w=H at *;have bMK:iN (cX.oY false L.1 L.2 q).1 (cX.oY false L.1 L.2 q).2=true:=i1;have bMJ:iN (cX.oY true H.1 H.2 q).1 (cX.oY true H.1 H.2 q).2=true:=i2;have cu:=dZ (shD true H q);have du:=dW pu;have eU:aQ (cX.oY true H.1 H.2 q).1 (cX.oY true H.1 H.2 q).2=shD true H q:=rfl;have eD:aQ (cX.oY false L.1 L.2 q).1 (cX.oY false L.1 L.2 q).2=shD false L q:=rfl;simp only[c1,c2,bMK,bMJ,cond_true,eU,eD,cu,v1];rw[gP ⟨dW p1,q0,q1⟩,gP ⟨dW p2,q0,q1⟩,gP ⟨by decide,by decide⟩,gP ⟨du,d1⟩];show aB (decide (0<eZ (shD true H q) (1,0))) _ _=_
 by_cases g:0<eZ (shD true H q) (1,0)
 ·rw[aM g,decide_eq_true g,cond_true,gP ⟨by decide,by decide⟩];rfl
 ·rw[aL g,decide_eq_false g,cond_false];rfl
def aJ:dJ:=orc4 (pI .u64) (pI .u64) (pN .i64) (pN .i64) sp
theorem ok:OK 206 aJ:=(dY E aE (aA wC.ok (aA wF.ok (aA kB.ok (aA Qb.ok (aA bDK.ok (aA Ku.ok (aA aSA.ok aC))))))) func206).aSJ rfl spec
end bQ
namespace bN
def E:=mE [(202,Pl.aJ),(203,Cr.aJ),(50,kB.aJ),(51,aKB.aJ),(59,Wu.aJ),(14,aSA.aJ),(205,aW.aJ),(206,bQ.aJ)] 63 [] [] []
def aE:=bd f160
theorem aT:Nk E aE:=nk
theorem start a c d b:aF E f160 aE [D.agg [sc (bool a),ints u64 c,sc (int i64 d)],D.s (sc (int i64 b))]=letI Q:=wv (isNeg 1,M6.dg (cLR 1));letI N:=i64.wrap (b+32);letI I:=i64.wrap ((0:Int)-b)-3;letI H:=dv (a,c,d);letI G:=aQ 1 0;letI T:=isNeg G.fst;letI K:=M6.dg G.fst.natAbs;letI A:=bif iN Q (i64.wrap I)then aQ Q (i64.wrap I)else((0:Int),(0:Int));aB ((c.length:Int)==(0:Int)) (aN ((-1000000:Int)<=(1:Int)/\(1:Int)<=(1000000:Int)) (aD T fun e=>aD K fun f=>aD G.snd fun g=>aD T fun h=>aD K fun i=>aD G.snd fun j=>some [D.agg [sc (bool e),ints u64 f,sc (int i64 g),sc (bool h),ints u64 i,sc (int i64 j)]])) (aN (aU (a,c,d)) (aD (if H.fst=0 then(0:Int)else d+(↑(bl (M6.val c)):Int)-(1:Int)) fun k=>aB (decide (i64.wrap (i64.wrap ((2:Int)*k)+8)<i64.wrap ((0:Int)-b))) (aN ((-9223372036854775808:Int)<=(1:Int)/\(1:Int)<(9223372036854775808:Int)) (aN (iE (isNeg 1,M6.dg 1)/\(-9223372036854775808:Int)<=i64.wrap I/\i64.wrap I<9223372036854775808) (aD (isNeg A.fst) fun l=>aD (M6.dg A.fst.natAbs) fun m=>aD A.snd fun n=>letI U:=dv (l,m,n);aN ((-9223372036854775808:Int)<=(1:Int)/\(1:Int)<(9223372036854775808:Int)) (aD T fun o=>aD K fun p=>aD G.snd fun q=>letI B:=bif bV.kY (dv (o,p,q)) (-U.fst,U.snd)then bV.oP (dv (o,p,q)) (-U.fst,U.snd)else((0:Int),(0:Int));aN (aU (o,p,q)/\aU (l,m,n)) (aD (isNeg B.fst) fun r=>aD (M6.dg B.fst.natAbs) fun s=>aD B.snd fun t=>aN ((-9223372036854775808:Int)<=(1:Int)/\(1:Int)<(9223372036854775808:Int)) (aD T fun u=>aD K fun v=>aD G.snd fun w=>some [D.agg [sc (bool r),ints u64 s,sc (int i64 t),sc (bool u),ints u64 v,sc (int i64 w)]])))))) (aN (aU (a,c,d)/\(1<=b/\b<=70000)/\((-70000:Int)<=aW.jO H/\aW.jO H<=100)/\aW.bU H b<=(2:Nat)^(aW.w1 H b).toNat) (aD (M6.dg (aW.Ec H b).snd) fun x=>aD (M6.dg ((2:Nat)^((2:Nat)*aW.hv H b+22))) fun y=>aD (aW.w2 H b) fun z=>letI P:=bQ.Eg (M6.val x) (M6.val y) z;letI O:=bQ.Ks (M6.val x) (M6.val y) z;letI F:=M.shD false O N;letI C:=M.shD true P N;letI W:=bQ.zO C;aN (M6.cN x/\M6.cN y/\bl (M6.val x)<=500000/\bl (M6.val y)<=500000/\(0<=z/\z<=500000)/\(1<=i64.wrap (b+32)/\i64.wrap (b+32)<=70000)/\yQ false O N=true/\yQ true P N=true/\kQ C) (aD (isNeg F.fst) fun aa=>aD (M6.dg F.fst.natAbs) fun ab=>aD F.snd fun ac=>aD (isNeg W.fst) fun ad=>aD (M6.dg W.fst.natAbs) fun ae=>aD W.snd fun af=>some [D.agg [sc (bool aa),ints u64 ab,sc (int i64 ac),sc (bool ad),ints u64 ae,sc (int i64 af)]]))))):=eJ aT
def tW(x:Int×Int)(p:Int):Int×Int:=if x.1=0 then(1,0)else if 2*aW.jO x+8 < -p then bV.oP (1,0) (-1,-p-3)else shD false (bQ.Ks (aW.Ec x p).2 (2^(2*aW.hv x p+22)) (aW.w2 x p)) (p+32)
def sW(x:Int×Int)(p:Int):Int×Int:=if x.1=0 then(1,0)else if 2*aW.jO x+8 < -p then(1,0)else bQ.zO (shD true (bQ.Eg (aW.Ec x p).2 (2^(2*aW.hv x p+22)) (aW.w2 x p)) (p+32))
def Vv(x:Int×Int)(p:Int):Prop:=(-70000<=aW.jO x/\aW.jO x<=100)/\aW.bU x p<=2^(aW.w1 x p).toNat
def aRF(a f:Nat)(w q:Int):Prop:=bl a<=500000/\bl f<=500000/\(0<=w/\w<=500000)/\yQ false (bQ.Ks a f w) q=true/\yQ true (bQ.Eg a f w) q=true/\kQ (shD true (bQ.Eg a f w) q)
def aJO(x:gW)(p:Int):Prop:=aU x/\(1<=p/\p<=67100)/\((dv x).1≠0->-600000<=aW.jO (dv x)/\(2*aW.jO (dv x)+8 < -p->bV.kY (1,0) (-1,-p-3)=true) /\
 (¬2*aW.jO (dv x)+8 < -p->Vv (dv x) p/\aRF (aW.Ec (dv x) p).2 (2^(2*aW.hv (dv x) p+22)) (aW.w2 (dv x) p) (p+32)))
def sp(x:gW)(p:Int):Prop×List D:=(aJO x p,
 [wY (tW (dv x) p) (sW (dv x) p)])
theorem spec:fN E f160 aE kA (pN .i64) sp:=by
 rintro x p ⟨hx,⟨p0,p1⟩,h⟩;refine(start x.1 x.2.1 x.2.2 p).trans ?_;have hz:=M6.cZ hx.Kl;have hl:=hx.len;have he:=hx.2.1;have ha:(dv x).1.natAbs=M6.val x.2.1:=iY (x.1,x.2.1);have bAB:(x.1,x.2.1,x.2.2)=x:=rfl;have n1:aQ 1 0=(1,0):=by decide +kernel
 have v1:wv (isNeg 1,M6.dg (cLR 1))=1:=oI 1;have hT:(if(dv x).1=0 then 0 else x.2.2+(bl (M6.val x.2.1):Int)-1)=aW.jO (dv x):=by rw[<-ha];rfl
 have k1:iE (isNeg 1,M6.dg 1):=gL (z:=1) (by decide +kernel);have pn:kQ (1,0):=⟨by decide +kernel,⟨by decide,by decide⟩,fun h=>absurd h (by decide),fun _=>by decide⟩;unfold sp tW sW;dsimp only
 by_cases c0:(dv x).1=0
 ·rw[bJ (by have:=hz.2 (by omega);omega),gP ⟨by decide,by decide⟩,if_pos c0,if_pos c0];simp only[aI,n1];rfl
 ·obtain⟨t0,hA,hB⟩:=h c0;have tt:=hx.xD.top;have l0:x.2.1.length≠0:=fun hc=>c0 (by have:=hz.1 hc;omega)
  simp only[bAB,hT,aI,n1,v1];rw[bB,if_neg c0,if_neg c0];have tU:aW.jO (dv x)<=1572864:=by unfold aW.jO;rw[if_neg c0];exact tt.2
  have w1:i64.wrap (i64.wrap (2*aW.jO (dv x))+8)=2*aW.jO (dv x)+8:=by rw[wrap_i64 (n:=2*aW.jO (dv x)),wrap_i64]
  have w2:i64.wrap (0-p)=-p:=by rw[wrap_i64];omega
  have w3:i64.wrap (-p-3)=-p-3:=wrap_i64;have w4:i64.wrap (p+32)=p+32:=wrap_i64;simp only[w1,w2,w3,w4];rw[gP hx]
  by_cases c1:2*aW.jO (dv x)+8 < -p
  ·have b1:bl (cLR 1)=1:=rfl;have i1:iN 1 (-p-3)=true:=iL (by omega) (by rw[b1];omega);have m1:aQ 1 (-p-3)=(1,-p-3):=by
    unfold aQ;rw[if_neg (by decide),show tz (cLR 1)=0 from by decide +kernel];simp
   have pg:kQ (1,-p-3):=m1▸iF i1 (by decide +kernel);have d1:=dW pn;have d2:=dW pg;have e1:=dZ ((1,0):Int×Int);have e2:=dZ ((1,-p-3):Int×Int);rw[aM c1,if_pos c1,if_pos c1];simp only[i1,m1,cond_true,e1,e2,hA c1];rw[gP ⟨by decide,by decide⟩,gP ⟨k1,by omega,by omega⟩,gP ⟨by decide,by decide⟩,gP ⟨d1,d2⟩,gP ⟨by decide,by decide⟩];rfl
  ·obtain⟨⟨b1,b2⟩,a1,a2,a3,a4,a5,a6⟩:=hB c1;rw[aL c1,if_neg c1,if_neg c1];simp only[M6.bD];rw[gP ⟨hx,⟨by omega,by omega⟩,b1,b2⟩,gP ⟨M6.aY _,M6.aY _,a1,a2,a3,⟨by omega,by omega⟩,a4,a5,a6⟩];rfl
def aJ:dJ:=orc2 kA (pN .i64) sp
theorem ok:OK 160 aJ:=(dY E aE (aA Pl.ok (aA Cr.ok (aA kB.ok (aA aKB.ok (aA Wu.ok (aA aSA.ok (aA aW.ok (aA bQ.ok aC)))))))) func160).lD rfl spec
end bN
namespace lB
def E:=mE [(67,wV.aJ),(68,aSB.aJ)] 27 [] [] []
def aE:=bd f20
theorem aT:Nk E aE:=nk
theorem start a b c d e f:aF E f20 aE [D.agg [sc (bool a),ints u64 b,sc (int i64 c),sc (bool d),ints u64 e,sc (int i64 f)]]=letI B:=dv (a,b,c);letI A:=dv (d,e,f);aN (fD (a,b,c,d,e,f)) (aN (aU (d,e,f)) (aD (isNeg (-A.fst)) fun g=>aD (M6.dg (-A.fst).natAbs) fun h=>aD A.snd fun i=>aN (aU (a,b,c)) (aD (isNeg (-B.fst)) fun j=>aD (M6.dg (-B.fst).natAbs) fun k=>aD B.snd fun l=>some [D.agg [sc (bool g),ints u64 h,sc (int i64 i),sc (bool j),ints u64 k,sc (int i64 l)],D.s (sc (int i64 0))]))):=eJ aT
def yB(p:Int×Int):Int×Int:=(-p.1,p.2)
def sp(s:yM):Prop×List D:=(fD s,[wY (yB (dv (iP s))) (yB (dv (iO s))),.s (.sc (.int .i64 0))])
theorem spec:iS E f20 aE Ae sp:=by
 intro s h;have h:fD s:=h;have hL:aU (s.1,s.2.1,s.2.2.1):=h.1;have hH:aU (s.2.2.2.1,s.2.2.2.2.1,s.2.2.2.2.2):=h.2.1;refine(start s.1 s.2.1 s.2.2.1 s.2.2.2.1 s.2.2.2.2.1 s.2.2.2.2.2).trans ?_;simp only[aI];rw[gP h,gP hH]
 (try simp only[aI])
 rw[gP hL];rfl
def aJ:dJ:=orc1 Ae sp
theorem ok:OK 20 aJ:=(dY E aE (aA wV.ok (aA aSB.ok aC)) func20).oU rfl spec
end lB
namespace Ji
def E:=mE [(20,lB.aJ)] 12 [] [] []
def aE:=bd f204
theorem aT:Nk E aE:=nk
theorem start a c d e f g b:aF E f204 aE [D.agg [sc (bool a),ints u64 c,sc (int i64 d),sc (bool e),ints u64 f,sc (int i64 g)],D.s (sc (bool b))]=letI A:=(a,c,d,e,f,g);letI C:=dv (iO A);letI B:=dv (iP A);aB b (aN (fD A) (some [D.agg [sc (bool (isNeg (-B.fst))),ints u64 (M6.dg (-B.fst).natAbs),sc (int i64 B.snd),sc (bool (isNeg (-C.fst))),ints u64 (M6.dg (-C.fst).natAbs),sc (int i64 C.snd)]])) (some [D.agg [sc (bool a),ints u64 c,sc (int i64 d),sc (bool e),ints u64 f,sc (int i64 g)]]):=eJ aT
def sp(s:yM)(b:Bool):Prop×List D:=(fD s,[wY (bif b then lB.yB (dv (iP s))else dv (iO s)) (bif b then lB.yB (dv (iO s))else dv (iP s))])
theorem spec:fN E f204 aE Ae pB sp:=by
 intro s b h;have h:fD s:=id h;refine(start s.1 s.2.1 s.2.2.1 s.2.2.2.1 s.2.2.2.2.1 s.2.2.2.2.2 b).trans ?_;unfold sp;cases b with
 |true =>
  show aN _ _=_;have h':fD (s.1,s.2.1,s.2.2.1,s.2.2.2.1,s.2.2.2.2.1,s.2.2.2.2.2):=h;rw[gP h'];rfl
 |false =>
  dsimp only[cond_false];rw[h.wY]
def aJ:dJ:=orc2 Ae pB sp
theorem ok:OK 204 aJ:=(dY E aE (aA lB.ok aC) func204).lD rfl spec
end Ji
namespace fV
def E:=mE [(202,Pl.aJ),(203,Cr.aJ),(163,bDK.aJ),(162,Qb.aJ),(50,kB.aJ),(51,aKB.aJ),(59,Wu.aJ),(204,Ji.aJ),(205,aW.aJ),(206,bQ.aJ)] 92 [] [] []
def aE:=bd f157
theorem aT:Nk E aE:=nk
theorem start a c d b:aF E f157 aE [D.agg [sc (bool a),ints u64 c,sc (int i64 d)],D.s (sc (int i64 b))]=letI F1:=wv (isNeg 1,M6.dg (cLR 1));letI B1:=aQ 0 0;letI I1:=M6.dg B1.fst.natAbs;letI A1:=dv (false,c,d);letI X:=aU (false,c,d)/\1<=i64.wrap (b+32)/\i64.wrap (b+32)<=70000;letI W:=dv (a,c,d);letI U:=i64.wrap (b+32);letI B:=cX.oY true A1.fst A1.snd U;letI O:=bif iN B.fst B.snd then aQ B.fst B.snd else((0:Int),(0:Int));letI A:=cX.oY false A1.fst A1.snd U;letI P:=bif iN A.fst A.snd then aQ A.fst A.snd else((0:Int),(0:Int));aB ((c.length:Int)==(0:Int)) (aN ((-1000000:Int)<=(0:Int)/\(0:Int)<=(1000000:Int)) (aD (isNeg B1.fst) fun e=>aD I1 fun f=>aD B1.snd fun g=>aD (isNeg B1.fst) fun h=>aD I1 fun i=>aD B1.snd fun j=>some [D.agg [sc (bool e),ints u64 f,sc (int i64 g),sc (bool h),ints u64 i,sc (int i64 j)]])) (aN (aU (a,c,d)) (aD (if W.fst=0 then(0:Int)else d+(↑(bl (M6.val c)):Int)-(1:Int)) fun k=>letI Y:=i64.wrap (k-b)-3;letI C:=bif iN F1 (i64.wrap Y)then aQ F1 (i64.wrap Y)else((0:Int),(0:Int));aB (decide (i64.wrap (i64.wrap ((2:Int)*k)+8)<i64.wrap ((0:Int)-b))) (aN X (aD (isNeg O.fst) fun l=>aD (M6.dg O.fst.natAbs) fun m=>aD O.snd fun n=>aN X (aD (isNeg P.fst) fun o=>aD (M6.dg P.fst.natAbs) fun p=>aD P.snd fun q=>aN ((-9223372036854775808:Int)<=(1:Int)/\(1:Int)<(9223372036854775808:Int)) (aN (iE (isNeg 1,M6.dg 1)/\(-9223372036854775808:Int)<=i64.wrap Y/\i64.wrap Y<9223372036854775808) (aD (isNeg C.fst) fun r=>aD (M6.dg C.fst.natAbs) fun s=>aD C.snd fun t=>letI G1:=dv (r,s,t);letI F:=bif bV.kY (dv (o,p,q)) (-G1.fst,G1.snd)then bV.oP (dv (o,p,q)) (-G1.fst,G1.snd)else((0:Int),(0:Int));aN (aU (o,p,q)/\aU (r,s,t)) (aD (isNeg F.fst) fun u=>aD (M6.dg F.fst.natAbs) fun v=>aD F.snd fun w=>letI Z:=(u,v,w,l,m,n);letI K:=bif a then lB.yB (dv (iO Z))else dv (iP Z);letI I:=bif a then lB.yB (dv (iP Z))else dv (iO Z);aN (fD Z) (aD (isNeg I.fst) fun x=>aD (M6.dg I.fst.natAbs) fun y=>aD I.snd fun z=>aD (isNeg K.fst) fun aa=>aD (M6.dg K.fst.natAbs) fun ab=>aD K.snd fun ac=>some [D.agg [sc (bool x),ints u64 y,sc (int i64 z),sc (bool aa),ints u64 ab,sc (int i64 ac)]]))))))) (aN (aU (a,c,d)/\(1<=b/\b<=70000)/\((-70000:Int)<=aW.jO W/\aW.jO W<=100)/\aW.bU W b<=(2:Nat)^(aW.w1 W b).toNat) (aD (M6.dg (aW.Ec W b).fst) fun ad=>letI K1:=M6.val ad;aD (M6.dg ((2:Nat)^((2:Nat)*aW.hv W b+22))) fun ae=>letI N1:=M6.val ae;aD (aW.w2 W b) fun af=>letI D1:=bQ.Eg K1 N1 af;letI C1:=bQ.Ks K1 N1 af;letI N:=M.shD false C1 U;letI G:=M.shD true D1 U;letI H1:=bQ.zO G;aN (M6.cN ad/\M6.cN ae/\bl K1<=500000/\bl N1<=500000/\(0<=af/\af<=500000)/\(1<=i64.wrap (b+32)/\i64.wrap (b+32)<=70000)/\yQ false C1 U=true/\yQ true D1 U=true/\kQ G) (aD (isNeg N.fst) fun ag=>aD (M6.dg N.fst.natAbs) fun ah=>aD N.snd fun ai=>aD (isNeg H1.fst) fun aj=>aD (M6.dg H1.fst.natAbs) fun ak=>aD H1.snd fun al=>letI H:=(ag,ah,ai,aj,ak,al);letI T:=bif a then lB.yB (dv (iO H))else dv (iP H);letI Q:=bif a then lB.yB (dv (iP H))else dv (iO H);aN (fD H) (aD (isNeg Q.fst) fun am=>aD (M6.dg Q.fst.natAbs) fun an=>aD Q.snd fun ao=>aD (isNeg T.fst) fun ap=>aD (M6.dg T.fst.natAbs) fun aq=>aD T.snd fun ar=>some [D.agg [sc (bool am),ints u64 an,sc (int i64 ao),sc (bool ap),ints u64 aq,sc (int i64 ar)]])))))):=eJ aT
def vQ(x:Int×Int)(p:Int):Int×Int:=if 2*aW.jO x+8 < -p then bV.oP (shD false ((x.1.natAbs:Int),x.2) (p+32)) (-1,aW.jO x-p-3)else shD false (bQ.Ks (aW.Ec x p).1 (2^(2*aW.hv x p+22)) (aW.w2 x p)) (p+32)
def uH(x:Int×Int)(p:Int):Int×Int:=if 2*aW.jO x+8 < -p then shD true ((x.1.natAbs:Int),x.2) (p+32)else bQ.zO (shD true (bQ.Eg (aW.Ec x p).1 (2^(2*aW.hv x p+22)) (aW.w2 x p)) (p+32))
def Mr(x:Int×Int)(p:Int):Int×Int:=if x.1=0 then(0,0)else bif isNeg x.1 then lB.yB (uH x p)else vQ x p
def Ms(x:Int×Int)(p:Int):Int×Int:=if x.1=0 then(0,0)else bif isNeg x.1 then lB.yB (vQ x p)else uH x p
def aTF(x:gW)(p:Int):Prop:=aU x/\(1<=p/\p<=67100)/\((dv x).1≠0->-600000<=aW.jO (dv x)/\kQ (vQ (dv x) p)/\kQ (uH (dv x) p)/\eZ (vQ (dv x) p) (uH (dv x) p)<=0 /\
 (2*aW.jO (dv x)+8 < -p->yQ true ((((dv x).1.natAbs:Nat):Int),(dv x).2) (p+32)=true/\yQ false ((((dv x).1.natAbs:Nat):Int),(dv x).2) (p+32)=true/\kQ (shD false ((((dv x).1.natAbs:Nat):Int),(dv x).2) (p+32))/\bV.kY (shD false ((((dv x).1.natAbs:Nat):Int),(dv x).2) (p+32)) (-1,aW.jO (dv x)-p-3)=true) /\
 (¬2*aW.jO (dv x)+8 < -p->bN.Vv (dv x) p/\bN.aRF (aW.Ec (dv x) p).1 (2^(2*aW.hv (dv x) p+22)) (aW.w2 (dv x) p) (p+32)))
def sp(x:gW)(p:Int):Prop×List D:=(aTF x p,
 [wY (Mr (dv x) p) (Ms (dv x) p)])
theorem spec:fN E f157 aE kA (pN .i64) sp:=by
 rintro x p ⟨hx,⟨p0,p1⟩,h⟩;refine(start x.1 x.2.1 x.2.2 p).trans ?_;have hz:=M6.cZ hx.Kl;have he:=hx.2.1;have ha:(dv x).1.natAbs=M6.val x.2.1:=iY (x.1,x.2.1);have bAB:(x.1,x.2.1,x.2.2)=x:=rfl;have n0:aQ 0 0=(0,0):=fR 0;have hT:(if(dv x).1=0 then 0 else x.2.2+(bl (M6.val x.2.1):Int)-1)=aW.jO (dv x):=by rw[<-ha];rfl
 have hN:isNeg (dv x).1=x.1:=hx.Fp.cells.1;have v1:wv (isNeg 1,M6.dg (cLR 1))=1:=oI 1;have k1:iE (isNeg 1,M6.dg 1):=gL (z:=1) (by decide +kernel);unfold sp Mr Ms;dsimp only
 by_cases c0:(dv x).1=0
 ·rw[bJ (by have:=hz.2 (by omega);omega),gP ⟨by decide,by decide⟩,if_pos c0,if_pos c0];simp only[aI,n0];rfl
 ·obtain⟨t0,q1,q2,q3,hA,hB⟩:=h c0;have tt:=hx.xD.top;have l0:x.2.1.length≠0:=fun hc=>c0 (by have:=hz.1 hc;omega)
  have tU:aW.jO (dv x)<=1572864:=by unfold aW.jO;rw[if_neg c0];exact tt.2
  simp only[bAB,hT,aI,v1];rw[bB,if_neg c0,if_neg c0];have w1:i64.wrap (i64.wrap (2*aW.jO (dv x))+8)=2*aW.jO (dv x)+8:=by rw[wrap_i64 (n:=2*aW.jO (dv x)),wrap_i64]
  have w2:i64.wrap (0-p)=-p:=by rw[wrap_i64];omega
  have w3:i64.wrap (i64.wrap (aW.jO (dv x)-p)-3)=aW.jO (dv x)-p-3:=by rw[wrap_i64 (n:=aW.jO (dv x)-p),wrap_i64]
  have w4:i64.wrap (p+32)=p+32:=wrap_i64;simp only[w1,w2,w3,w4];rw[gP hx];have sk:fD (nU (vQ (dv x) p) (uH (dv x) p)):=yW q1 q2 q3;have eL:=qF (vQ (dv x) p) (uH (dv x) p);have eH:=qG (vQ (dv x) p) (uH (dv x) p);rw[hN];unfold nU at sk eL eH
  by_cases c1:2*aW.jO (dv x)+8 < -p
  ·obtain⟨s1,s2,s3,s4⟩:=hA c1;have ok:aU (false,x.2.1,x.2.2):=⟨⟨hx.1.1,fun hf=>(by cases hf),hx.1.len⟩,hx.2⟩;have vx:dv (false,x.2.1,x.2.2)=((((dv x).1.natAbs:Nat):Int),(dv x).2):=by rw[ha];rfl
   have b1:bl (cLR 1)=1:=rfl;have i1:iN 1 (aW.jO (dv x)-p-3)=true:=iL (by omega) (by rw[b1];omega);have m1:aQ 1 (aW.jO (dv x)-p-3)=(1,aW.jO (dv x)-p-3):=by
    unfold aQ;rw[if_neg (by decide),show tz (cLR 1)=0 from by decide +kernel];simp
   have pg:kQ (1,aW.jO (dv x)-p-3):=m1▸iF i1 (by decide +kernel);have e2:=dZ ((1,aW.jO (dv x)-p-3):Int×Int);have d2:=dW pg;have d3:=dW s3;have e3:=dZ (shD false ((((dv x).1.natAbs:Nat):Int),(dv x).2) (p+32));have bVE:iN (cX.oY true (((dv x).1.natAbs:Nat):Int) (dv x).2 (p+32)).1 (cX.oY true (((dv x).1.natAbs:Nat):Int) (dv x).2 (p+32)).2=true:=s1;have bVD:iN (cX.oY false (((dv x).1.natAbs:Nat):Int) (dv x).2 (p+32)).1 (cX.oY false (((dv x).1.natAbs:Nat):Int) (dv x).2 (p+32)).2=true:=s2;have u1:aQ (cX.oY true (((dv x).1.natAbs:Nat):Int) (dv x).2 (p+32)).1 (cX.oY true (((dv x).1.natAbs:Nat):Int) (dv x).2 (p+32)).2=shD true ((((dv x).1.natAbs:Nat):Int),(dv x).2) (p+32):=rfl;have u2:aQ (cX.oY false (((dv x).1.natAbs:Nat):Int) (dv x).2 (p+32)).1 (cX.oY false (((dv x).1.natAbs:Nat):Int) (dv x).2 (p+32)).2=shD false ((((dv x).1.natAbs:Nat):Int),(dv x).2) (p+32):=rfl;have dL:vQ (dv x) p=bV.oP (shD false ((((dv x).1.natAbs:Nat):Int),(dv x).2) (p+32)) (-1,aW.jO (dv x)-p-3):=if_pos c1;have dH:uH (dv x) p=shD true ((((dv x).1.natAbs:Nat):Int),(dv x).2) (p+32):=if_pos c1;rw[aM c1];simp only[vx,bVE,bVD,u1,u2,i1,m1,cond_true,e2,e3,s4];rw[gP ⟨ok,by omega,by omega⟩,gP ⟨ok,by omega,by omega⟩,gP ⟨by decide,by decide⟩,gP ⟨k1,by omega,by omega⟩,gP ⟨d3,d2⟩,<-dL,<-dH,gP sk,eL,eH];rfl
  ·obtain⟨⟨b1,b2⟩,a1,a2,a3,a4,a5,a6⟩:=hB c1;have dL:vQ (dv x) p=shD false (bQ.Ks (aW.Ec (dv x) p).1 (2^(2*aW.hv (dv x) p+22)) (aW.w2 (dv x) p)) (p+32):=if_neg c1;have dH:uH (dv x) p=bQ.zO (shD true (bQ.Eg (aW.Ec (dv x) p).1 (2^(2*aW.hv (dv x) p+22)) (aW.w2 (dv x) p)) (p+32)):=if_neg c1;rw[aL c1];simp only[M6.bD];rw[gP ⟨hx,⟨by omega,by omega⟩,b1,b2⟩,gP ⟨M6.aY _,M6.aY _,a1,a2,a3,⟨by omega,by omega⟩,a4,a5,a6⟩,<-dL,<-dH,gP sk,eL,eH];rfl
def aJ:dJ:=orc2 kA (pN .i64) sp
theorem ok:OK 157 aJ:=(dY E aE (aA Pl.ok (aA Cr.ok (aA bDK.ok (aA Qb.ok (aA kB.ok (aA aKB.ok (aA Wu.ok (aA Ji.ok (aA aW.ok (aA bQ.ok aC)))))))))) func157).lD rfl spec
end fV
end W
namespace R
def Sq(F D X p q p' q':Nat):Bool :=
 cBS 9007199254740992 q'&&((cBQ (p*q') (p'*q+1)||cBQ (p'*q) (p*q'+1)) &&
 ((cBS (p*(F+1)+D) (q*X)&&cBS (q'*X) (p'*F))||(cBS (q*X+D) (p*F)&&cBS (p'*(F+1)) (q'*X))))
def bEK(F D X:Nat)(f:Nat):Nat->Nat->Nat->Nat->Nat->Nat->Bool:=Nat.rec (motive:=fun _=>Nat->Nat->Nat->Nat->Nat->Nat->Bool) (fun _ _ _ _ _ _=>false)
 (fun _ ih a b p q p' q'=>cond (cBS 9007199254740992 q') (Sq F D X p q p' q') (iA (a/b) fun t=>iA (a-t*b) fun r=>iA (t*p'+p) fun p2=>iA (t*q'+q) fun q2=>ih b r p' q' p2 q2)) f
def aVN(F D:Nat)(n:Nat):Nat->Bool:=Nat.rec (motive:=fun _=>Nat->Bool) (fun _=>true) (fun _ ih X=>bEK F D X 80 X F 0 1 1 0&&iA (2*X) fun X'=>ih X') n
def bIV(w n:Nat):Bool :=
 Prod.rec (motive:=fun _=>Bool) (fun t5 s5=>Prod.rec (motive:=fun _=>Bool) (fun t239 nC =>
  cBS (4*nC) (16*s5)&&(cBQ t5 0&&(cBQ t239 0 &&
  iA ((16*s5-4*nC)/2^64) fun F=>iA (2^(w-64-62)) fun D=>iA (2^(w-64-53)) fun X =>
  cBQ (((16*s5-4*nC)+2^40)/2^64) F&&(cBQ (((16*s5-4*nC)-2^40)/2^64) F&&aVN F D n X))))
  (aBG 239 w 10 10)) (aBG 5 w 20 20)
theorem bVZ{L L' s m k p q p' q' P X:Rat}(hL:L=q*X-p*P)(bKY:L'=q'*X-p'*P)(hs:s*s=1)(aOY:p*q'-p'*q=s):m*X-k*P=s*(k*q'-m*p')*L+s*(m*p-k*q)*L':=by
 subst hL;subst bKY;have e1:s*(k*q'-m*p')*(q*X-p*P)+s*(m*p-k*q)*(q'*X-p'*P)=s*(p*q'-p'*q)*(m*X-k*P):=by grind
 rw[e1,aOY,hs];grind
theorem Ye{a b:Bool}(h:(a||b)=true):a=true\/b=true:=by simpa using h
theorem wO{a:Int}(h:0<a):(1:Rat)<=(a:Rat):=by exact_mod_cast h
theorem aVH {F D X p q p' q' : Nat} (h : Sq F D X p q p' q' = true) {P : Rat} (h1 : (F : Rat) ≤ P) (h2 : P ≤ (F : Rat) + 1) {m k : Int} (hm : 0 < m) (bAN : m < 9007199254740992) : (D : Rat) ≤ ab ((m : Rat) * (X : Rat) - (k : Rat) * P) := by
  unfold Sq at h
  obtain ⟨c1, h⟩ := fT h
  obtain ⟨c2, c3⟩ := fT h
  have c1 := cDN c1
  obtain ⟨s, hs, aOY⟩ : ∃ s : Int, s * s = 1 ∧ (p : Int) * q' - p' * q = s := by
    rcases Ye c2 with h | h
    · have := cCE h
      exact ⟨1, rfl, by have : (p : Int) * q' = p' * q + 1 := by exact_mod_cast this
                        omega⟩
    · have := cCE h
      exact ⟨-1, rfl, by have : (p' : Int) * q = p * q' + 1 := by exact_mod_cast this
                         omega⟩
  obtain ⟨a, ha⟩ : ∃ a : Int, a = s * (k * q' - m * p') := ⟨_, rfl⟩
  obtain ⟨b, hb⟩ : ∃ b : Int, b = s * (m * p - k * q) := ⟨_, rfl⟩
  have hmab : m = a * q + b * q' := by
    have : a * q + b * q' = s * (p * q' - p' * q) * m := by rw [ha, hb]; grind
    rw [this, aOY, hs]; omega
  obtain ⟨L, hL⟩ : ∃ L : Rat, L = (q : Rat) * X - (p : Rat) * P := ⟨_, rfl⟩
  obtain ⟨L', bKY⟩ : ∃ L' : Rat, L' = (q' : Rat) * X - (p' : Rat) * P := ⟨_, rfl⟩
  have bSI : (s : Rat) * (s : Rat) = 1 := by exact_mod_cast hs
  have aIV : (p : Rat) * q' - p' * q = (s : Rat) := by
    have := congrArg (Int.cast : Int → Rat) aOY
    rw [cPV, cNA, cNA, cNB, cNB, cNB, cNB] at this
    exact this
  have bAO := bVZ (m := (m : Rat)) (k := (k : Rat)) hL bKY bSI aIV
  have bTZ : (s : Rat) * ((k : Rat) * q' - m * p') = (a : Rat) := by
    rw [ha]; push_cast; rfl
  have bTY : (s : Rat) * ((m : Rat) * p - k * q) = (b : Rat) := by
    rw [hb]; push_cast; rfl
  rw [bTZ, bTY] at bAO
  rw [bAO]
  have aSM : (0 : Int) ≤ q := by omega
  have hq'0 : (9007199254740992 : Int) ≤ q' := by omega
  have aCM : (0 : Rat) ≤ (p : Rat) := by exact_mod_cast cHS p
  have bGN : (0 : Rat) ≤ (p' : Rat) := by exact_mod_cast cHS p'
  have bAF : ((D : Rat) ≤ L ∧ L' ≤ 0) ∨ ((D : Rat) ≤ -L ∧ 0 ≤ L') := by
    rcases Ye c3 with h | h
    · obtain ⟨d1, d2⟩ := fT h
      have d1 : ((p * (F + 1) + D : Nat) : Rat) ≤ ((q * X : Nat) : Rat) := by exact_mod_cast cDN d1
      have d2 : ((q' * X : Nat) : Rat) ≤ ((p' * F : Nat) : Rat) := by exact_mod_cast cDN d2
      push_cast at d1 d2
      have := aG aCM (show 0 ≤ (F : Rat) + 1 - P by grind)
      have := aG bGN (show 0 ≤ P - (F : Rat) by grind)
      left
      constructor <;> grind
    · obtain ⟨d1, d2⟩ := fT h
      have d1 : ((q * X + D : Nat) : Rat) ≤ ((p * F : Nat) : Rat) := by exact_mod_cast cDN d1
      have d2 : ((p' * (F + 1) : Nat) : Rat) ≤ ((q' * X : Nat) : Rat) := by exact_mod_cast cDN d2
      push_cast at d1 d2
      have := aG aCM (show 0 ≤ P - (F : Rat) by grind)
      have := aG bGN (show 0 ≤ (F : Rat) + 1 - P by grind)
      right
      constructor <;> grind
  have hD0 : (0 : Rat) ≤ (D : Rat) := by exact_mod_cast cHS D
  clear bAO bTZ bTY aIV bSI hL bKY ha hb aOY hs c2 c3
  rcases Int.lt_trichotomy b 0 with hb | hb | hb
  · have aVE : 0 < a := by
      refine Int.not_le.1 fun hn => ?_
      have := cND (show 0 ≤ -a by omega) aSM
      have := cND (show 0 ≤ -b by omega) (show (0 : Int) ≤ q' by omega)
      rw [cLF] at *
      omega
    have r1 := wO aVE
    have r2 := wO (show 0 < -b by omega)
    have r2 : (1 : Rat) ≤ -(b : Rat) := by rw [← cOO]; exact r2
    rcases bAF with ⟨g1, g2⟩ | ⟨g1, g2⟩
    · have := aG (show 0 ≤ (a : Rat) - 1 by grind) (show 0 ≤ L by grind)
      have := aG (show 0 ≤ -(b : Rat) by grind) (show 0 ≤ -L' by grind)
      have := Dz ((a : Rat) * L + (b : Rat) * L')
      grind
    · have := aG (show 0 ≤ (a : Rat) - 1 by grind) (show 0 ≤ -L by grind)
      have := aG (show 0 ≤ -(b : Rat) by grind) (show 0 ≤ L' by grind)
      have := oV ((a : Rat) * L + (b : Rat) * L')
      grind
  · subst hb
    have aVE : 0 < a := by
      refine Int.not_le.1 fun hn => ?_
      have := cND (show 0 ≤ -a by omega) aSM
      rw [cLF] at *
      omega
    have r1 := wO aVE
    have z : ((0 : Int) : Rat) = 0 := by norm_cast
    rw [z]
    rcases bAF with ⟨g1, g2⟩ | ⟨g1, g2⟩
    · have := aG (show 0 ≤ (a : Rat) - 1 by grind) (show 0 ≤ L by grind)
      have := Dz ((a : Rat) * L + 0 * L')
      grind
    · have := aG (show 0 ≤ (a : Rat) - 1 by grind) (show 0 ≤ -L by grind)
      have := oV ((a : Rat) * L + 0 * L')
      grind
  · have aVE : a < 0 := by
      refine Int.not_le.1 fun hn => ?_
      have := cND hn aSM
      have := cDZ (show 1 ≤ b by omega) (show (0 : Int) ≤ q' by omega)
      omega
    have r1 := wO (show 0 < -a by omega)
    have r1 : (1 : Rat) ≤ -(a : Rat) := by rw [← cOO]; exact r1
    have r2 := wO hb
    rcases bAF with ⟨g1, g2⟩ | ⟨g1, g2⟩
    · have := aG (show 0 ≤ -(a : Rat) - 1 by grind) (show 0 ≤ L by grind)
      have := aG (show 0 ≤ (b : Rat) by grind) (show 0 ≤ -L' by grind)
      have := oV ((a : Rat) * L + (b : Rat) * L')
      grind
    · have := aG (show 0 ≤ -(a : Rat) - 1 by grind) (show 0 ≤ -L by grind)
      have := aG (show 0 ≤ (b : Rat) by grind) (show 0 ≤ L' by grind)
      have := Dz ((a : Rat) * L + (b : Rat) * L')
      grind
theorem bBT{F D X:Nat}:∀(f a b p q p' q':Nat),bEK F D X f a b p q p' q'=true->∃p q p' q',Sq F D X p q p' q'=true:=by
 intro f
 induction f with
 |zero=>intro a b p q p' q' h;exact absurd h (by simp[bEK])
 |succ f ih =>
  intro a b p q p' q' h;have e:bEK F D X (f+1) a b p q p' q'=cond (cBS 9007199254740992 q') (Sq F D X p q p' q') (iA (a/b) fun t=>iA (a-t*b) fun r=>iA (t*p'+p) fun p2=>iA (t*q'+q) fun q2=>bEK F D X f b r p' q' p2 q2):=rfl;rw[e]at h;cases hc:cBS 9007199254740992 q' with
  |true=>rw[hc]at h;exact⟨_,_,_,_,h⟩
  |false =>
   rw[hc,cond_false,fJ,fJ,fJ,fJ]at h;exact ih _ _ _ _ _ _ h
theorem aVM{F D:Nat}:∀(n X:Nat),aVN F D n X=true->∀i,i<n->∃p q p' q',Sq F D (2^i*X) p q p' q'=true:=by
 intro n
 induction n with
 |zero=>intro X _ i hi;omega
 |succ n ih =>
  intro X h i hi;have e:aVN F D (n+1) X=(bEK F D X 80 X F 0 1 1 0&&iA (2*X) fun X'=>aVN F D n X'):=rfl;rw[e,fJ]at h;obtain⟨h1,h2⟩:=fT h;cases i with
  |zero =>
   rw[Nat.pow_zero,cFT];exact bBT _ _ _ _ _ _ _ h1
  |succ i =>
   have:=ih _ h2 i (by omega);rw[cGO,cGS];exact this
theorem bQH:bIV 1464 1030=true:=by kernel_rfl
theorem aUH{s5 nC:Nat}{W a b:Rat}(hle:4*nC<=16*s5)(h5:ab ((s5:Rat)-W*aAD 5)<=a)(Vd:ab ((nC:Rat)-W*aAD 239)<=b):ab (((16*s5-4*nC:Nat):Rat)-W*pi)<=16*a+4*b:=by
 have hc:((16*s5-4*nC:Nat):Rat)+4*(nC:Rat)=16*(s5:Rat):=by exact_mod_cast(show 16*s5-4*nC+4*nC=16*s5 by omega)
 unfold pi;rw[cK]at *;grind
theorem aCD{m k:Int}{i:Nat}(hi:i<1030)(hm:0<m)(bAN:m<9007199254740992):1/4611686018427387904<=ab ((m:Rat)*((2^i:Nat):Rat)/9007199254740992-(k:Rat)*pi):=by
 have h:=bQH;unfold bIV at h;have h5:=Jd (n:=5) (by omega) 1464 20 20 (by omega);have Vd:=Jd (n:=239) (by omega) 1464 10 10 (by omega);generalize hw:(1464:Nat)=w at *;generalize aBG 5 w 20 20=A at *;generalize aBG 239 w 10 10=B at *;obtain⟨t5,s5⟩:=A;obtain⟨t239,nC⟩:=B;dsimp only at *;obtain⟨bUN,h⟩:=fT h;obtain⟨z5,h⟩:=fT h;obtain⟨aYK,h⟩:=fT h;rw[fJ,fJ,fJ]at h;obtain⟨q1,h⟩:=fT h;obtain⟨q2,h⟩:=fT h;have q1:=cCE q1;have q2:=cCE q2;have h5:=h5 (cCE z5);have Vd:=Vd (cCE aYK);obtain⟨p,q,p',q',hg⟩:=aVM _ _ h i hi;have aPF:ab (((16*s5-4*nC:Nat):Rat)-((2^w:Nat):Rat)*pi)<=524288:=by
  have:=aUH (cDN bUN) h5 Vd;refine cGU this ?_;have n1:((2*(20*20):Nat):Rat)=800:=by norm_cast
  have n2:((2*(10*10):Nat):Rat)=200:=by norm_cast
  rw[n1,n2];grind
 generalize 16*s5-4*nC=P at *;have aQD:=uX w (by omega);have lo:((P/2^64:Nat):Rat)<=((2^(w-64):Nat):Rat)*pi:=by
  have:2^64*(P/2^64)<=P-2^40:=by
   have:=Nat.mul_div_le (P-2^40) (2^64);rwa [q2]at this
  have hz:P/2^64=0\/2^64*(P/2^64)+2^40<=P:=by omega
  rcases hz with hz |h2
  ·rw[hz];have h3:(0:Rat)<=((2^(w-64):Nat):Rat):=by exact_mod_cast cHS _
   have:=aG h3 (cGW (show 0<pi from by have:=iH.1;grind));have z:((0:Nat):Rat)=0:=by norm_cast
   rw[z];exact this
  ·have h3:((2^64:Nat):Rat)*((P/2^64:Nat):Rat)+((2^40:Nat):Rat)<=(P:Rat):=by exact_mod_cast h2
   rw[aQD,cIO,cK]at aPF;have n1:((2^64:Nat):Rat)=18446744073709551616:=by norm_cast
   have n2:((2^40:Nat):Rat)=1099511627776:=by norm_cast
   rw[n1]at aPF h3;rw[n2]at h3;refine cO (q:=18446744073709551616) (by grind) ?_;generalize ((2^(w-64):Nat):Rat)=W at *;grind
 have aGJ:((2^(w-64):Nat):Rat)*pi<=((P/2^64:Nat):Rat)+1:=by
  have:P+2^40<2^64*(P/2^64+1):=by
   have:=Nat.lt_mul_div_succ (P+2^40) (show 0<2^64 by omega);rwa [q1]at this
  have h3:(P:Rat)+((2^40:Nat):Rat)<((2^64:Nat):Rat)*(((P/2^64:Nat):Rat)+1):=by exact_mod_cast this
  rw[aQD,cIO,cK]at aPF;have n1:((2^64:Nat):Rat)=18446744073709551616:=by norm_cast
  have n2:((2^40:Nat):Rat)=1099511627776:=by norm_cast
  rw[n1]at aPF h3;rw[n2]at h3;refine cO (q:=18446744073709551616) (by grind) ?_;generalize ((2^(w-64):Nat):Rat)=W at *;grind
 have bKK:=aVH hg lo aGJ (k:=k) hm bAN;have eD:((2^(w-64):Nat):Rat)=((2^(w-64-62):Nat):Rat)*4611686018427387904:=by
  have:2^(w-64)=2^(w-64-62)*2^62:=by rw[<-cGP];congr 1;omega
  rw[this,cIO];congr 1
 have eX:((2^(w-64):Nat):Rat)=((2^(w-64-53):Nat):Rat)*9007199254740992:=by
  have:2^(w-64)=2^(w-64-53)*2^53:=by rw[<-cGP];congr 1;omega
  rw[this,cIO];congr 1
 have aPD:(0:Rat)<((2^(w-64):Nat):Rat):=by exact_mod_cast dA
 have hWp2:(0:Rat)<((2^(w-64-62):Nat):Rat):=by exact_mod_cast dA
 have e:(m:Rat)*((2^i*2^(w-64-53):Nat):Rat)-(k:Rat)*(((2^(w-64):Nat):Rat)*pi)=((2^(w-64):Nat):Rat)*((m:Rat)*((2^i:Nat):Rat)/9007199254740992-(k:Rat)*pi):=by
  rw[cIO,eX];grind
 rw[e,fX,bS (cGW aPD)]at bKK;refine cO aPD ?_;rw[eD]at bKK ⊢;grind
end R
namespace R
def bJF(x:Rat):Prop:=∃m e:Int,0<m/\m<9007199254740992/\-53<=e/\e<=971/\(x=(m:Rat)*pz e\/x=-((m:Rat)*pz e))
theorem Yn{x:Rat}(h:bJF x){j:Nat}(hj:j=1\/j=2)(k:Int):1/4611686018427387904<=ab (((2^j:Nat):Rat)*x-(k:Rat)*pi):=by
 obtain⟨m,e,m0,m1,e0,e1,hx⟩:=h;obtain⟨i,hi⟩:=cGR (show 0<=e+53+(j:Int) by omega);have ep:((2^j:Nat):Rat)*((m:Rat)*pz e)=(m:Rat)*((2^i:Nat):Rat)/9007199254740992:=by
  have h1:pz (e+53+(j:Int))=((2^i:Nat):Rat):=by rw[hi,mI]
  rw[eN,jQ]at h1;have h2:pz 53=9007199254740992:=by rw[show(53:Int)=((53:Nat):Int)from rfl,mI];norm_cast
  rw[h2]at h1;rw[<-h1];grind
 rcases hx with rfl |rfl
 ·have:=aCD (i:=i) (k:=k) (by omega) m0 m1;rw[ep];exact this
 ·have:=aCD (i:=i) (k:=-k) (by omega) m0 m1;rw[<-ep,cOO]at this;have e2:ab (((2^j:Nat):Rat)*-((m:Rat)*pz e)-(k:Rat)*pi)=ab (((2^j:Nat):Rat)*((m:Rat)*pz e) - -(k:Rat)*pi):=by rw[<-iZ];congr 1;grind
  rw[e2];exact this
def sA(x:Rat)(k:Int):Prop:=ab (x-(k:Rat)*(pi/2))<=pi/4+1/36893488147419103232
def Fit(x:Rat):Prop:=bJF x\/ab x<=3/4
theorem aFA{x:Rat}(h:ab x<=3/4){k:Int}(hk:sA x k):k=0:=by
 obtain⟨p1,p2⟩:=iH;unfold sA at hk;rw[cK]at hk h;refine Classical.byContradiction fun Bp=>?_
 by_cases c:1<=k
 ·have c1:(1:Rat)<=(k:Rat):=by exact_mod_cast c
  have:=aG (show 0<=(k:Rat)-1 by grind) (show 0<=pi by grind);grind
 ·have c1:(k:Rat)<=-1:=by
   have:(k:Rat)<=((-1:Int):Rat):=Rat.intCast_le_intCast.2 (by omega);rwa [show((-1:Int):Rat)=-1 by norm_cast]at this
  have:=aG (show 0<=-1-(k:Rat) by grind) (show 0<=pi by grind);grind
theorem aEJ{x:Rat}(h:Fit x){k l:Int}(hk:sA x k)(hl:sA x l):¬k<l:=by
 intro kD;rcases h with h |h
 ·obtain⟨p1,p2⟩:=iH;unfold sA at hk hl;rw[cK]at hk hl
  by_cases e:l=k+1
  ·subst e;have c1:((k+1:Int):Rat)=(k:Rat)+1:=by norm_cast
   rw[c1]at hl;have n:=Yn h (j:=2) (Or.inr rfl) (2*k+1);have c2:((2*k+1:Int):Rat)=2*(k:Rat)+1:=by norm_cast
   have c3:((2^2:Nat):Rat)=4:=by norm_cast
   rw[c2,c3]at n;have:ab (4*x-(2*(k:Rat)+1)*pi)<=1/9223372036854775808:=by rw[cK];constructor <;> grind
   grind
  ·have c1:(k:Rat)+2<=(l:Rat):=by
    have:((k+2:Int):Rat)<=(l:Rat):=by exact_mod_cast(show k+2<=l by omega)
    rwa [show((k+2:Int):Rat)=(k:Rat)+2 by norm_cast]at this
   have:=aG (show 0<=(l:Rat)-(k:Rat)-2 by grind) (show 0<=pi by grind);grind
 ·have:=aFA h hk;have:=aFA h hl;omega
theorem aLM{x:Rat}(h:Fit x){k l:Int}(hk:sA x k)(hl:sA x l):k=l:=by
 have:=aEJ h hk hl;have:=aEJ h hl hk;omega
theorem aZD{x:Rat}(h:bJF x)(k:Int):1/9223372036854775808<=ab (x-(k:Rat)*(pi/2)):=by
 have n:=Yn h (j:=1) (Or.inl rfl) k;have c3:((2^1:Nat):Rat)=2:=by norm_cast
 have e:((2^1:Nat):Rat)*x-(k:Rat)*pi=2*(x-(k:Rat)*(pi/2)):=by rw[c3];grind
 rw[e,fX,bS (show(0:Rat)<=2 by grind)]at n;grind
theorem tF{x:Rat}{k:Int}(h:sA x k):ab (x-(k:Rat)*(pi/2))<=79/100:=by
 obtain⟨p1,p2⟩:=iH;unfold sA at h;grind
theorem aQO(r:Rat):cs (ab r)=cs r:=by
 unfold ab;split
 ·rfl
 ·rw[Ew]
theorem aMP{r:Rat}(h:ab r<=1):sn (ab r)=ab (sn r):=by
 by_cases h0:0<=r
 ·rw[bS h0]at *;rw[bS (Mq h0 h)]
 ·have e:ab r=-r:=by unfold ab;rw[if_neg h0]
  rw[e]at h;rw[e,<-iZ (sn r),<-xK,bS (Mq (by grind) h)]
theorem Zt{r:Rat}(h:ab r<=4/5):17/25<=cs r/\cs r<=1:=by
 have h0:=aO r;obtain⟨c1,c2⟩:=Gq h0 (by grind);have m:=cB h0 h h0 h;have m2:=aG h0 h0;have m3:=aG m2 (show 0<=6-ab r*ab r by grind);rw[aQO]at c1 c2;generalize ab r=a at *;constructor <;> grind
theorem aEY{r:Rat}(h0:0<=r)(h:r<=4/5):4/5*r<=sn r/\sn r<=r:=by
 have h1:r<=1:=by grind
 refine⟨?_,aEX h0 h1⟩;have c1:=(xY h0 h1).1;have m:=cB h0 h h0 h;have m3:=aG h0 (show 0<=16/25-r*r by grind);grind
theorem aXB{a b:Int}(h:a<b):pz a<pz b:=by
 have h1:=cY (show a+1<=b by omega);have h2:=dU a;rw[kF]at h1;grind
theorem aIB{a b:Int}:pz a<=pz b↔a<=b:=by
 constructor
 ·intro h;refine Int.not_lt.1 fun hn=>?_
  have:=aXB hn;grind
 ·exact cY
theorem xZ{a b:Int}:pz a<pz b↔a<b:=by
 constructor
 ·intro h;refine Int.not_le.1 fun hn=>?_
  have:=cY hn;grind
 ·exact aXB
theorem aNA:pz 1=2:=by rw[show(1:Int)=0+1 by rfl,kF,fM];grind
theorem oJ(a:Int):pz (a-1)*2=pz a:=by
 have:=kF (a-1);rw[show a-1+1=a by omega]at this;grind
theorem fU(a:Int){n:Nat}{c:Rat}(hc:((2^n:Nat):Rat)=c):pz (a-(n:Int))*c=pz a:=by
 have:=eN (a-(n:Int)) n;rw[show a-(n:Int)+(n:Int)=a by omega,hc]at this;exact this.symm
end R
namespace R
open W.TSums
theorem Mj{f:Nat->Rat}:∀{n:Nat},(∀k,k<n->f k=0)->sum f n=0
 |0,_=>rfl
 |n+1,h=>by rw[dX,Mj fun k hk=>h k (by omega),h n (by omega)];grind
theorem Rv(g:Nat->Rat)(k f:Nat):sum (fun i=>g (k+i)) (f+1)=g k+sum (fun i=>g (k+1+i)) f:=by
 rw[cHQ f 1,lO];have e:(fun i=>g (k+(1+i)))=fun i=>g (k+1+i):=funext fun i=>by rw[Nat.add_assoc]
 rw[e,dX];have z:sum (fun i=>g (k+i)) 0=0:=rfl;rw[z,cCN];grind
def gC(u W i:Nat):Rat:=cc i*(sq u W i:Rat)
def gS(u W i:Nat):Rat:=ss i*(sq u W i:Rat)
theorem Fv{u W:Nat}(hu:u<=W):∀f k a b c d,c<=a->d<=b->(k%4=1\/k%4=2->c+sq u W k<=a)->(k%4=2\/k%4=3->d+sq u W k<=b) ->
  (tay u W f k a b c d).2.2.1<=(tay u W f k a b c d).1/\(tay u W f k a b c d).2.2.2<=(tay u W f k a b c d).2.1 /\
  ((tay u W f k a b c d).1:Rat)-((tay u W f k a b c d).2.2.1:Rat)=(a:Rat)-(c:Rat)+sum (fun i=>gC u W (k+i)) f /\
  ((tay u W f k a b c d).2.1:Rat)-((tay u W f k a b c d).2.2.2:Rat)=(b:Rat)-(d:Rat)+sum (fun i=>gS u W (k+i)) f
 |0,k,a,b,c,d,h1,h2,_,_=>by
  have z1:sum (fun i=>gC u W (k+i)) 0=0:=rfl;have z2:sum (fun i=>gS u W (k+i)) 0=0:=rfl;refine⟨h1,h2,?_,?_⟩
  ·show(a:Rat)-(c:Rat)=_;rw[z1];grind
  ·show(b:Rat)-(d:Rat)=_;rw[z2];grind
 |f+1,k,a,b,c,d,h1,h2,h3,h4=>by
  have hs:=Ml hu k;have hm:k%4<4:=cDX _ (by decide);unfold tay
  by_cases hz:sq u W k=0
  ·have za:=Xl hz;rw[if_pos hz];have z1:sum (fun i=>gC u W (k+i)) (f+1)=0:=Mj fun i _=>by unfold gC;rw[za];simp
   have z2:sum (fun i=>gS u W (k+i)) (f+1)=0:=Mj fun i _=>by unfold gS;rw[za];simp
   rw[z1,z2];refine⟨h1,h2,?_,?_⟩
   ·show(a:Rat)-(c:Rat)=_;grind
   ·show(b:Rat)-(d:Rat)=_;grind
  ·rw[if_neg hz,Rv (gC u W) k f,Rv (gS u W) k f];have e4:(k+1)%4=(k%4+1)%4:=by omega
   by_cases c0:k%4=0
   ·rw[if_pos c0];obtain⟨r1,r2,r3,r4⟩:=Fv hu f (k+1) (a+sq u W k) b c d (by omega) h2 (fun _=>by omega) (fun h=>by omega);refine⟨r1,r2,?_,?_⟩
    ·rw[r3,cMB];have:gC u W k=(sq u W k:Rat):=by unfold gC cc;rw[if_pos c0];grind
     rw[this];grind
    ·rw[r4];have:gS u W k=0:=by unfold gS ss;rw[aP,aP];grind
     rw[this];grind
   ·rw[if_neg c0]
    by_cases c1:k%4=1
    ·rw[if_pos c1];obtain⟨r1,r2,r3,r4⟩:=Fv hu f (k+1) a (b+sq u W k) c d h1 (by omega) (fun _=>by have:=h3 (Or.inl c1);omega) (fun _=>by omega);refine⟨r1,r2,?_,?_⟩
     ·rw[r3];have:gC u W k=0:=by unfold gC cc;rw[if_neg c0,aP];grind
      rw[this];grind
     ·rw[r4,cMB];have:gS u W k=(sq u W k:Rat):=by unfold gS ss;rw[if_pos c1];grind
      rw[this];grind
    ·rw[if_neg c1]
     by_cases c2:k%4=2
     ·rw[if_pos c2];have g1:=h3 (Or.inr c2);have g2:=h4 (Or.inl c2);obtain⟨r1,r2,r3,r4⟩:=Fv hu f (k+1) a b (c+sq u W k) d (by omega) h2 (fun h=>by omega) (fun _=>by omega);refine⟨r1,r2,?_,?_⟩
      ·rw[r3,cMB];have:gC u W k=-(sq u W k:Rat):=by unfold gC cc;rw[if_neg c0,if_pos c2];grind
       rw[this];grind
      ·rw[r4];have:gS u W k=0:=by unfold gS ss;rw[if_neg c1,aP];grind
       rw[this];grind
     ·rw[if_neg c2];have g2:=h4 (Or.inr (by omega));obtain⟨r1,r2,r3,r4⟩:=Fv hu f (k+1) a b c (d+sq u W k) h1 (by omega) (fun h=>by omega) (fun h=>by omega);refine⟨r1,r2,?_,?_⟩
      ·rw[r3];have:gC u W k=0:=by unfold gC cc;rw[if_neg c0,if_neg c2];grind
       rw[this];grind
      ·rw[r4,cMB];have:gS u W k=-(sq u W k:Rat):=by unfold gS ss;rw[if_neg c1,aR];grind
       rw[this];grind
theorem Iv{x y:Nat}(h:y<=x):((x-y:Nat):Rat)=(x:Rat)-(y:Rat):=by
 have:((x-y:Nat):Rat)+(y:Rat)=(x:Rat):=by exact_mod_cast(show x-y+y=x by omega)
 grind
theorem aMI{u w:Nat}(hu:u<=2^w):(aHV u w:Rat)=sum (fun k=>ss k*(sq u (2^w) k:Rat)) (w+1)/\(aHW u w:Rat)=sum (fun k=>cc k*(sq u (2^w) k:Rat)) (w+1):=by
 obtain⟨r1,r2,r3,r4⟩:=Fv hu (w+1) 0 0 0 0 0 (cBP _) (cBP _) (fun h=>by omega) (fun h=>by omega);unfold aHV aHW;rw[Iv r1,Iv r2,r3,r4];have z:((0:Nat):Rat)=0:=by norm_cast
 have e1:sum (fun i=>gC u (2^w) (0+i)) (w+1)=sum (fun k=>cc k*(sq u (2^w) k:Rat)) (w+1):=kZ fun k _=>by rw[cBR];rfl
 have e2:sum (fun i=>gS u (2^w) (0+i)) (w+1)=sum (fun k=>ss k*(sq u (2^w) k:Rat)) (w+1):=kZ fun k _=>by rw[cBR];rfl
 rw[e1,e2,z];constructor <;> grind
end R
namespace M
open Go AI W
theorem Th(p:Int×Int):R.ab (R.qz p)=(p.1.natAbs:Rat)*R.pz p.2:=by
 unfold R.qz;rw[R.fX,R.bS (cGW (R.dU p.2))];congr 1;unfold R.ab
 by_cases hz:0<=p.1
 ·rw[if_pos (by exact_mod_cast hz),<-cNB];congr 1;omega
 ·rw[if_neg (by intro hc;exact hz (by exact_mod_cast hc)),<-cNB,<-cOO];congr 1;omega
theorem Yv(w:Int)(hw:65<=w):∀f h:Nat,4<=h->(h=4\/16*(h:Int)-16<w)->THalvings.hlv w f h=4\/16*(THalvings.hlv w f h:Int)-16<w
 |0,h,_,hh=>hh
 |f+1,h,h4,hh=>by
  unfold THalvings.hlv;split
  ·rename_i hc;refine Yv w hw f (h+1) (by omega) (Or.inr ?_);have:4*(h:Int)*h>=4*4*h:=by
    have:=cDZ (show(4*4:Int)<=4*h by omega) (show(0:Int)<=h by omega);omega
   omega
  ·exact hh
theorem Gw{x:Int×Int}{p:Int}(h0:x.1≠0)(h1:bA x<=0)(ht:-1200<=bA x)(hp:1<=p/\p<=67100) :
  aW.jO x=bA x/\aW.w0 x p=p+80-bA x/\4<=aW.hv x p/\aW.hv x p<=204/\(aW.hv x p:Int)+50<=p+80-bA x/\aW.w1 x p=p+80-bA x+2*(aW.hv x p:Nat)/\aW.w2 x p=p+80-bA x+3*(aW.hv x p:Nat):=by
 have e1:aW.jO x=bA x:=by unfold aW.jO bA;rw[if_neg h0]
 have e2:aW.w0 x p=p+80-bA x:=by
  unfold aW.w0;rw[e1];split <;> omega
 obtain⟨h3,h4⟩:=aW.aCO (aW.w0 x p) 200 4;have h5:=Yv (aW.w0 x p) (by omega) 200 4 (by omega) (Or.inl rfl);have eh:THalvings.hlv (aW.w0 x p) 200 4=aW.hv x p:=rfl;rw[eh]at h3 h4 h5;refine⟨e1,e2,h4,h3,?_,?_,?_⟩
 ·omega
 ·unfold aW.w1;omega
 ·unfold aW.w2 aW.w1;omega
theorem aVK(x:Int×Int)(n:Int):(wU.aSQ x n:Rat)<=R.pz n*R.ab (R.qz x)/\R.pz n*R.ab (R.qz x)<(wU.aSQ x n:Rat)+1:=by
 rw[Th];have e:R.pz n*((x.1.natAbs:Rat)*R.pz x.2)=(x.1.natAbs:Rat)*R.pz (x.2+n):=by rw[R.jQ];grind
 rw[e];unfold wU.aSQ;split
 ·rename_i h;obtain⟨k,hk⟩:=cGR h;rw[hk,R.mI,cFM,cIO];constructor <;> grind
 ·rename_i h;obtain⟨k,hk⟩:=cGR (show 0<=-(x.2+n) by omega);have hp:0<2^k:=cEP (by decide);obtain⟨d1,d2⟩:=R.zF x.1.natAbs hp;rw[hk,cFM,show x.2+n=-(k:Int) by omega,R.yY];have h2:=R.Uz k;have h3:=R.xO k;have m1:=R.aG (cGW h3) (show 0<=(x.1.natAbs:Rat)-((2^k:Nat):Rat)*((x.1.natAbs/2^k:Nat):Rat) by grind);have m2:=cHI h3 (show 0<((2^k:Nat):Rat)*((x.1.natAbs/2^k:Nat):Rat)+((2^k:Nat):Rat)-(x.1.natAbs:Rat) by grind);generalize ((x.1.natAbs/2^k:Nat):Rat)=q at *;generalize ((2^k:Nat):Rat)=K at *;generalize (x.1.natAbs:Rat)=m at *;generalize R.hf k=g at *;have e1:g*(K*q)=q:=by rw[<-cMZ,h2];grind
  constructor <;> grind
theorem aAA{x:Int×Int}{p:Int}(h0:x.1≠0)(hT:R.ab (R.qz x)<=1)(h1:bA x<=0)(ht:-1200<=bA x)(hp:1<=p/\p<=67100) :
  aW.bU x p<=2^(aW.w1 x p).toNat /\
  R.ab (((aW.Ec x p).1:Rat)-R.pz (aW.w2 x p)*R.sn (R.ab (R.qz x)))<=R.pz (2*(aW.hv x p:Nat)+18) /\
  R.ab (((aW.Ec x p).2:Rat)-R.pz (aW.w2 x p)*R.cs (R.ab (R.qz x)))<=R.pz (2*(aW.hv x p:Nat)+18):=by
 obtain⟨e1,e2,h4,h5,h6,bQA,bPZ⟩:=Gw h0 h1 ht hp;obtain⟨u1,u2⟩:=aVK x (aW.w1 x p);have hT0:=R.aO (R.qz x);unfold aW.Ec;have eU:wU.aSQ x (aW.w1 x p)=aW.bU x p:=rfl;rw[eU]at u1 u2;generalize aW.bU x p=u at *;generalize aW.hv x p=h at *;generalize R.ab (R.qz x)=T at *;obtain⟨n,hn⟩:=cGR (show 0<=aW.w1 x p by omega);have aUS:aW.w2 x p=((n+h:Nat):Int):=by omega
 rw[hn,R.mI]at u1 u2;rw[hn,aUS,R.mI,cFM,cFM];have hu:u<=2^n:=by
  have hW:(0:Rat)<=((2^n:Nat):Rat):=by exact_mod_cast cHS _
  have:=R.aG hW (show 0<=1-T by grind);have:(u:Rat)<=((2^n:Nat):Rat):=by grind
  exact_mod_cast this
 have Ys:u<=2^(n+h):=cCL hu (cEQ (by decide) (by omega));obtain⟨s1,s2⟩:=R.aMI Ys;have r:=R.aHK hT0 hT u1 u2 (h:=h) (by omega) (by omega) (by omega) s1 s2;have b:((4^h*(2*(n+h)+10):Nat):Rat)<=R.pz (2*(h:Nat)+18):=by
  rw[show 2*(h:Int)+18=((2*h+18:Nat):Int) by omega,R.mI];have:4^h*(2*(n+h)+10)<=2^(2*h+18):=by
   rw[cGP,<-R.Ol];exact cED _ (by have:(2:Nat)^18=262144:=rfl;omega)
  exact_mod_cast this
 exact⟨hu,cGU r.1 b,cGU r.2 b⟩
end M
namespace M
open Go AI W
theorem Ba(up:Bool)(p:Int×Int)(n:Nat):bl (shD up p n).1.natAbs<=n+1:=by
 unfold shD cX.oY;refine cCL (xE _ _) ?_;split
 ·dsimp only;omega
 ·rename_i h;dsimp only;exact aDD up p.1 _ n (by omega)
theorem Hq{p:Int×Int}{E:Int}(h0:p.1≠0)(h:R.ab (R.qz p)<R.pz E):bA p<E:=by
 have:=(pZ h0).1;refine R.xZ.1 ?_;grind
theorem Ej{p:Int×Int}{E:Int}(h0:p.1≠0)(h:R.pz E<=R.ab (R.qz p)):E<=bA p:=by
 have:=(pZ h0).2;have:R.pz E<R.pz (bA p+1):=by grind
 have:=R.xZ.1 this;omega
theorem Fu{p:Int×Int}{E:Int}(h0:p.1≠0)(h:R.ab (R.qz p)<=R.pz E):bA p<=E:=by
 have:=(pZ h0).1;refine R.aIB.1 ?_;grind
theorem aWZ{p:Int×Int}(h:p.1≠0):R.qz p≠0:=by
 intro hz;have h1:=(pZ h).1;have h2:=R.dU (bA p);rw[hz,R.bS (by grind)]at h1;grind
theorem Jy{p:Int×Int}(h:R.qz p≠0):p.1≠0:=fun hz=>h (R.pV hz)
theorem kO{p:Int×Int}:0<R.qz p↔0<p.1:=by
 have h:=R.dU p.2;unfold R.qz;constructor
 ·intro hp;refine Int.not_le.1 fun hn=>?_
  have c:(p.1:Rat)<=0:=by exact_mod_cast hn
  have:=R.aG (show 0<=-(p.1:Rat) by grind) (cGW h);grind
 ·intro hp;have c:(0:Rat)<(p.1:Rat):=by exact_mod_cast hp
  exact cHI c h
theorem yX{p:Int×Int}:R.qz p<0↔p.1<0:=by
 have h:=kO (p:=(-p.1,p.2));rw[nV]at h;constructor
 ·intro hp;have:=h.1 (by grind);dsimp only at this;omega
 ·intro hp;have:=h.2 (by dsimp only;omega);grind
theorem aDQ{p q:Int×Int}{E:Int}{n:Nat}(hp:kQ p)(hq:kQ q)(h1:E<=p.2)(h2:E<=q.2)(v1:R.ab (R.qz p)<=R.pz (E+n))(v2:R.ab (R.qz q)<=R.pz (E+n))(hn:n<=500000)(hE:-1048576<=E)(bTN:E+n<=1048000):bV.kY p q=true:=by
 unfold bV.kY
 by_cases z1:p.1=0
 ·rw[decide_eq_true z1,cGZ]
 by_cases z2:q.1=0
 ·rw[decide_eq_true z2,cGZ,cHO]
 rw[decide_eq_false z1,decide_eq_false z2,cDQ,cDQ];obtain⟨m1,m2⟩:=Lx p q;have hm:E<=bV.iM p q:=by unfold bV.iM;split <;> omega
 have bAN:bV.iM p q<=1048576/\-1048576<=bV.iM p q:=by have:=hp.2.1;have:=hq.2.1;unfold bV.iM;split <;> omega
 have qX:R.qz (bV.oD p q,bV.iM p q)=R.qz p:=by
  unfold bV.oD R.qz;dsimp only;have e1:R.pz p.2=R.pz (bV.iM p q)*((2^(p.2-bV.iM p q).toNat:Nat):Rat):=by rw[<-R.eN];congr 1;omega
  rw[e1,cNA,cNB];grind
 have qY:R.qz (bV.oC p q,bV.iM p q)=R.qz q:=by
  unfold bV.oC R.qz;dsimp only;have e1:R.pz q.2=R.pz (bV.iM p q)*((2^(q.2-bV.iM p q).toNat:Nat):Rat):=by rw[<-R.eN];congr 1;omega
  rw[e1,cNA,cNB];grind
 have qS:R.qz (bV.oD p q+bV.oC p q,bV.iM p q)=R.qz p+R.qz q:=by
  rw[<-qX,<-qY];unfold R.qz;dsimp only;rw[cOP];grind
 have vS:R.ab (R.qz (bV.oD p q+bV.oC p q,bV.iM p q))<=R.pz (E+n+1):=by
  rw[qS,R.kF];have:=R.Wb (R.qz p) (R.qz q);grind
 rw[<-qX]at v1;rw[<-qY]at v2;generalize bV.oD p q=X at *;generalize bV.oC p q=Y at *;generalize bV.iM p q=m at *;have bits:∀(z:Int) (F:Int),R.ab (R.qz (z,m))<=R.pz F->bl z.natAbs=0\/m+(bl z.natAbs:Nat)<=F+1:=by
  intro z F hv
  by_cases hz:z=0
  ·left;rw[hz];rfl
  ·right;have:=Fu (p:=(z,m)) hz hv;unfold bA at this;dsimp only at this;omega
 have b1:=bits X _ v1;have b2:=bits Y _ v2;have b3:=bits (X+Y) _ vS;have f:∀z:Int,bl z.natAbs<=524288->fit z.natAbs=true:=fun z h=>decide_eq_true h
 rw[f X (by omega),f Y (by omega),f (X+Y) (by omega),iL (by omega) (by omega)];rfl
theorem zA{p:Int×Int}(h:kQ p):kQ ((p.1.natAbs:Int),p.2):=by
 obtain⟨h1,h2,h3,h4⟩:=h;exact⟨by dsimp only;rw[cHH];exact h1,h2,fun hz=>h3 (by dsimp only at hz;omega),fun hz=>by dsimp only at hz ⊢;have:=h4 (by omega);omega⟩
theorem Em(p:Int×Int):R.qz ((p.1.natAbs:Int),p.2)=R.ab (R.qz p):=by
 rw[Th];unfold R.qz;dsimp only;rw[cNB]
theorem aSY(p:Int×Int):bA ((p.1.natAbs:Int),p.2)=bA p:=by
 unfold bA;dsimp only;rw[cHH]
theorem qT:R.qz (1,0)=1:=by
 unfold R.qz;dsimp only;rw[R.fM];have:((1:Int):Rat)=1:=by norm_cast
 rw[this];grind
theorem Cz:kQ (1,0):=⟨by decide +kernel,⟨by decide,by decide⟩,fun h=>absurd h (by decide),fun _=>by decide⟩
theorem aPV{a f:Nat}{w q:Int}{V E:Rat}(hq:1<=q)(hE:R.ab ((a:Rat)-R.pz w*V)<=E)(hf:E<=(f:Rat))(hfa:(f:Rat)+E<=R.pz w*V)(hV:0<=V) :
  f<=a/\R.qz (shD false (bQ.Ks a f w) q)<=V-R.pz (-w)*f+R.pz (-w)*E/\V-R.pz (-w)*f-R.pz (-w)*E-R.pz (1-q)*V<=R.qz (shD false (bQ.Ks a f w) q) /\
  V+R.pz (-w)*f-R.pz (-w)*E<=R.qz (shD true (bQ.Eg a f w) q)/\R.qz (shD true (bQ.Eg a f w) q)<=V+R.pz (-w)*f+R.pz (-w)*E+R.pz (1-q)*(2*V):=by
 rw[R.cK]at hE;have bHN:f<=a:=by
  have:(f:Rat)<=(a:Rat):=by grind
  exact_mod_cast this
 refine⟨bHN,?_⟩;have g:=R.dU (-w);have gi:=R.Ue w;have n1:=(Hu false (bQ.Ks a f w) hq).1 rfl;have n2:=(Hu true (bQ.Eg a f w) hq).2 rfl;have q1:R.qz (bQ.Ks a f w)=((a:Rat)-(f:Rat))*R.pz (-w):=by
  unfold bQ.Ks;rw[pD,cNB,R.Iv bHN]
 have q2:R.qz (bQ.Eg a f w)=((a:Rat)+(f:Rat))*R.pz (-w):=by
  unfold bQ.Eg;rw[pD,cNB,cMB]
 rw[q1]at n1;rw[q2]at n2;have a0:(0:Rat)<=(a:Rat)-(f:Rat):=by grind
 have f0:(0:Rat)<=(f:Rat):=by exact_mod_cast cHS f
 rw[R.bS (R.aG a0 (cGW g))]at n1;rw[R.bS (R.aG (show(0:Rat)<=(a:Rat)+(f:Rat) by grind) (cGW g))]at n2;have eV:R.pz (-w)*(R.pz w*V)=V:=by rw[<-cMZ,cOL (R.pz (-w)),gi];grind
 have m1:=R.aG (cGW g) (show 0<=E-((a:Rat)-R.pz w*V) by grind);have m2:=R.aG (cGW g) (show 0<=E+((a:Rat)-R.pz w*V) by grind);have m3:=R.aG (cGW g) (show 0<=R.pz w*V-((f:Rat)+E) by grind);have m4:=R.aG (cGW g) (show 0<=(f:Rat)-E by grind);have e0:R.pz w*V=R.pz w*V:=rfl;generalize R.pz w*V=U at *;generalize R.pz (-w)=G at *;have h0:=R.dU (1-q);generalize R.pz (1-q)=H at *;have k1:=R.aG (cGW h0) (show 0<=V-((a:Rat)-(f:Rat))*G by grind);have k2:=R.aG (cGW h0) (show 0<=2*V-((a:Rat)+(f:Rat))*G by grind);refine⟨?_,?_,?_,?_⟩ <;> grind
theorem aHI(p:Int×Int):R.qz (bQ.zO p)<=1/\R.qz (bQ.zO p)<=R.qz p/\(R.qz (bQ.zO p)=R.qz p\/R.qz (bQ.zO p)=1)/\(∀v,v<=R.qz p->v<=1->v<=R.qz (bQ.zO p)):=by
 unfold bQ.zO
 by_cases h:0<eZ p (1,0)
 ·rw[decide_eq_true h,cond_true,qT];have:=zM.1 h;rw[qT]at this;exact⟨cID,cGW this,Or.inr rfl,fun v _ h=>h⟩
 ·rw[decide_eq_false h,cond_false];have:R.qz p<=1:=by rw[<-qT];exact Rat.not_lt.1 fun hn=>h (zM.2 hn)
  exact⟨this,cID,Or.inl rfl,fun v h _=>h⟩
theorem aFS{p:Int×Int}(h:kQ p):kQ (bQ.zO p):=by
 unfold bQ.zO;cases decide (0<eZ p (1,0))
 ·exact h
 ·exact Cz
theorem aQX{p:Int×Int}{n:Nat}(hn:1<=n)(h:bl p.1.natAbs<=n):bl (bQ.zO p).1.natAbs<=n:=by
 unfold bQ.zO;cases decide (0<eZ p (1,0))
 ·exact h
 ·exact hn
theorem bIZ{x:Int×Int}{p:Int}{V:Rat}{a:Nat}(h0:x.1≠0)(h1:bA x<=0)(ht:-1200<=bA x)(hp:1<=p/\p<=67100)(hV:R.pz (bA x-1)<=V)(bTG:V<=1)
  (ha:R.ab ((a:Rat)-R.pz (aW.w2 x p)*V)<=R.pz (2*(aW.hv x p:Nat)+18)) :
  bN.aRF a (2^(2*aW.hv x p+22)) (aW.w2 x p) (p+32) /\
  kQ (shD false (bQ.Ks a (2^(2*aW.hv x p+22)) (aW.w2 x p)) (p+32)) /\
  R.qz (shD false (bQ.Ks a (2^(2*aW.hv x p+22)) (aW.w2 x p)) (p+32))<=V-R.pz (bA x-p-270) /\
  V-R.pz (bA x-p-61)-R.pz (-p-31)*V<=R.qz (shD false (bQ.Ks a (2^(2*aW.hv x p+22)) (aW.w2 x p)) (p+32)) /\
  V+R.pz (bA x-p-270)<=R.qz (shD true (bQ.Eg a (2^(2*aW.hv x p+22)) (aW.w2 x p)) (p+32)) /\
  R.qz (shD true (bQ.Eg a (2^(2*aW.hv x p+22)) (aW.w2 x p)) (p+32))<=V+R.pz (bA x-p-61)+R.pz (-p-31)*(2*V):=by
 obtain⟨e1,e2,h4,h5,h6,bQA,bPZ⟩:=Gw h0 h1 ht hp;generalize aW.hv x p=h at *;generalize aW.w2 x p=w at *;have tp:=R.dU (bA x-1);have V0:0<=V:=by grind
 have fE:((2^(2*h+22):Nat):Rat)=R.pz (2*(h:Nat)+22):=by rw[show 2*(h:Int)+22=((2*h+22:Nat):Int) by omega,R.mI]
 have l1:R.pz (2*(h:Nat)+18)<=R.pz (2*(h:Nat)+22):=R.cY (by omega);have l2:R.pz (2*(h:Nat)+22)+R.pz (2*(h:Nat)+18)<=R.pz w*V:=by
  have b1:R.pz (2*(h:Nat)+23)<=R.pz w*R.pz (bA x-1):=by rw[<-R.jQ];exact R.cY (by omega)
  have b2:R.pz (2*(h:Nat)+23)=2*R.pz (2*(h:Nat)+22):=by rw[<-R.kF];congr 1
  have b3:=R.aG (cGW (R.dU w)) (show 0<=V-R.pz (bA x-1) by grind);grind
 have r:=aPV (a:=a) (f:=2^(2*h+22)) (w:=w) (q:=p+32) (V:=V) (E:=R.pz (2*(h:Nat)+18)) (by omega) ha (by rw[fE];exact l1) (by rw[fE];exact l2) V0;obtain⟨r0,r1,r2,r3,r4⟩:=r;rw[fE,<-R.jQ,<-R.jQ]at r1 r2 r3 r4;rw[show(1:Int)-(p+32)=-p-31 by omega]at r2 r4;have d1:R.pz (-w+(2*(h:Nat)+18))=R.pz (-w+(2*(h:Nat)+22))/16:=by
  have:=R.fU (-w+(2*(h:Nat)+22)) (n:=4) (c:=16) (by norm_cast);rw[show -w+(2*(h:Int)+22)-((4:Nat):Int)=-w+(2*(h:Nat)+18) by omega]at this;grind
 have d2:R.pz (bA x-p-270)<=R.pz (-w+(2*(h:Nat)+22))/16:=by rw[<-d1];exact R.cY (by omega)
 have d3:R.pz (-w+(2*(h:Nat)+22))*2<=R.pz (bA x-p-61):=by
  rw[cOL,<-R.kF];exact R.cY (by omega)
 rw[d1]at r1 r2 r3 r4;have dp:=R.dU (-w+(2*(h:Nat)+22));have ba:bl a<=70000:=by
  have:(a:Rat)<=R.pz (w+1):=by
   rw[R.cK]at ha;rw[R.kF];have b3:=R.aG (cGW (R.dU w)) (show 0<=1-V by grind);have:R.pz (2*(h:Nat)+18)<=R.pz w:=R.cY (by omega);grind
  obtain⟨n,hn⟩:=cGR (show 0<=w+1 by omega);rw[hn,R.mI]at this;have:a<=2^n:=by exact_mod_cast this
  refine cCL (gF this) ?_;rw[aQZ];omega
 have bf:bl (2^(2*h+22))<=500:=by rw[aQZ];omega
 have bs:bl (a-2^(2*h+22))<=70000:=cCL (gF (cIA _ _)) ba;have bt:bl (a+2^(2*h+22))<=70001:=cCL (Di _ _) (by omega);have j1:iN ((a-2^(2*h+22):Nat):Int) (-w)=true:=iL (by omega) (by rw[cHH];omega);have j2:iN ((a+2^(2*h+22):Nat):Int) (-w)=true:=iL (by omega) (by rw[cHH];omega);have p1:kQ (bQ.Ks a (2^(2*h+22)) w):=iF j1 (by rw[cHH];omega);have p2:kQ (bQ.Eg a (2^(2*h+22)) w):=iF j2 (by rw[cHH];omega);have aXI:∀{z:Nat},bl z<=70001->kQ (aQ (z:Int) (-w))->bLF (aQ (z:Int) (-w)):=by
  intro z hz hP;refine⟨hP,?_⟩;have hb:=xE (z:Int) (-w);rw[cHH]at hb
  by_cases z0:(z:Int)=0
  ·rw[z0,fR];show(0:Int)+((bl (0:Int).natAbs:Nat):Int)<=1048000;decide +kernel
  ·have h2:=(lW (e:=-w) z0).2;have h3:=Dw (n:=z) (by omega);rw[cHH]at h2;omega
 obtain⟨s1,s2⟩:=Rz (up:=false) (n:=p+32) (aXI (by omega) p1) (by omega);obtain⟨s3,s4⟩:=Rz (up:=true) (n:=p+32) (aXI bt p2) (by omega);refine⟨⟨by omega,by omega,⟨by omega,by omega⟩,s1,s3,s4⟩,s2,?_,?_,?_,?_⟩ <;> grind
end M
namespace M
open Go AI W
theorem aYY(up:Bool)(p:Int×Int){n:Int}(hn:bA p+1-n<=0):bA p+1-n<=(shD up p n).2:=by
 have key:∀z e:Int,bA p+1-n<=e->bA p+1-n<=(aQ z e).2:=by
  intro z e he
  by_cases hz:z=0
  ·rw[hz,fR];exact hn
  ·have:=tD (e:=e) hz;omega
 unfold shD cX.oY;unfold bA at *;split
 ·exact key _ _ (by omega)
 ·exact key _ _ (by omega)
theorem Lb{up:Bool}{p:Int×Int}{n:Int}(h:(shD up p n).1≠0):bA p+1-n<=(shD up p n).2:=by
 have key:∀z e:Int,(aQ z e).1≠0->bA p+1-n<=e->bA p+1-n<=(aQ z e).2:=by
  intro z e h0 he;have:=tD (e:=e) (fun hz=>h0 (eF.2 hz));omega
 unfold shD at *;refine key _ _ h ?_;unfold cX.oY bA at *;split <;> (dsimp only;omega)
theorem aHN{p q:Int×Int}{E:Int}(h1:E<=p.2)(h2:E<=q.2)(h0:E<=0):E<=(bV.oP p q).2:=by
 have hm:E<=bV.iM p q:=by unfold bV.iM;split <;> omega
 unfold bV.oP;split
 ·exact h2
 ·split
  ·exact h1
  ·by_cases hz:bV.oD p q+bV.oC p q=0
   ·rw[hz,fR];exact h0
   ·have:=tD (e:=bV.iM p q) hz;omega
theorem aRC{p:Int×Int}{E F:Int}(h1:E<=p.2)(h2:R.ab (R.qz p)<=R.pz F):(bl p.1.natAbs:Int)<=F+1-E\/bl p.1.natAbs=0:=by
 by_cases h0:p.1=0
 ·right;rw[h0];rfl
 ·left;have:=Fu h0 h2;unfold bA at this;omega
theorem Lh(k:Int):R.qz (-1,k)=-R.pz k:=by
 unfold R.qz;dsimp only;have:((-1:Int):Rat)=-1:=by norm_cast
 rw[this];grind
theorem Yc{k:Int}(h:-1048576<=k/\k<=1048576):kQ (-1,k):=⟨by show bl (-1:Int).natAbs<=524288;decide +kernel,h,fun h=>absurd (show(-1:Int)=0 from h) (by decide),fun _=>by show(-1:Int)%2=1;decide⟩
theorem aEL{x:Int×Int}(h0:x.1≠0)(hT:R.ab (R.qz x)<=4/5):bA x<=-1:=by
 have:R.ab (R.qz x)<R.pz 0:=by rw[R.fM];grind
 have:=Hq h0 this;omega
structure bEM(x:Int×Int)(p:Int):Prop where
 pl:kQ (fV.vQ x p)
 ph:kQ (fV.uH x p)
 bl:bl (fV.vQ x p).1.natAbs<=80000
 bh:M.bl (fV.uH x p).1.natAbs<=80000
 lo:R.qz (fV.vQ x p)<=R.sn (R.ab (R.qz x))-R.pz (bA x-p-270)
 hi:R.sn (R.ab (R.qz x))<=R.qz (fV.uH x p)
 wd:R.qz (fV.uH x p)-R.qz (fV.vQ x p)<=R.pz (-p-1)*R.ab (R.qz x)
 one:R.qz (fV.uH x p)<=1
 mh:¬2*bA x+8 < -p->R.sn (R.ab (R.qz x))+R.pz (bA x-p-270)<=R.qz (fV.uH x p)
 pos:0<R.qz (fV.vQ x p)
 bLV:2*bA x+8 < -p->yQ true ((x.1.natAbs:Int),x.2) (p+32)=true/\yQ false ((x.1.natAbs:Int),x.2) (p+32)=true/\kQ (shD false ((x.1.natAbs:Int),x.2) (p+32))/\bV.kY (shD false ((x.1.natAbs:Int),x.2) (p+32)) (-1,bA x-p-3)=true
 okB:¬2*bA x+8 < -p->bN.Vv x p/\bN.aRF (aW.Ec x p).1 (2^(2*aW.hv x p+22)) (aW.w2 x p) (p+32)
theorem aXA{p:Int}(hp:1<=p):R.pz (-p-1)<=1/4:=by
 have h:=R.cY (show -p-1<=-2 by omega);have h2:=R.yY 2;rw[show -((2:Nat):Int)=-2 by rfl]at h2;rw[h2]at h;have h3:R.hf 2=1/4:=by simp[R.hf];grind
 grind
theorem Xq{x:Int×Int}{p:Int}(hx:kQ x)(h0:x.1≠0)(hT:R.ab (R.qz x)<=4/5)(ht:-1200<=bA x)(hp:1<=p/\p<=67100):bEM x p:=by
 have h1:=aEL h0 hT;obtain⟨e1,e2,h4,h5,h6,bQA,bPZ⟩:=Gw h0 (by omega) ht hp;obtain⟨t1,t2⟩:=pZ h0;have tp:=R.dU (bA x);have T0:0<R.ab (R.qz x):=by grind
 obtain⟨v1,v2⟩:=R.aEY (cGW T0) hT;obtain⟨z,hz⟩:∃z,z=R.pz (-p-31):=⟨_,rfl⟩;have z0:=R.dU (-p-31);have q1:R.pz (-p-1)=1073741824*z:=by
  have:=R.fU (-p-1) (n:=30) (c:=1073741824) (by norm_cast);rw[show -p-1-((30:Nat):Int)=-p-31 by omega,<-hz]at this;grind
 have q2:R.pz (bA x-p-61)=z*R.pz (bA x)/1073741824:=by
  have:=R.fU (-p-31+bA x) (n:=30) (c:=1073741824) (by norm_cast);rw[show -p-31+bA x-((30:Nat):Int)=bA x-p-61 by omega,R.jQ,<-hz]at this;grind
 have q3:R.pz (bA x-p-3)=268435456*(z*R.pz (bA x)):=by
  have:=R.fU (bA x-p-3) (n:=28) (c:=268435456) (by norm_cast);rw[show bA x-p-3-((28:Nat):Int)=-p-31+bA x by omega,R.jQ,<-hz]at this;grind
 have sm:=aXA hp.1;rw[q1]at sm;rw[<-hz]at z0;have zt:=R.aG (cGW z0) (show 0<=R.ab (R.qz x)-R.pz (bA x) by grind);have zT:=R.aG (cGW T0) (show 0<=1/4-1073741824*z by grind);have aUI:R.pz (bA x-p-270)<=R.pz (bA x-p-61):=R.cY (by omega);have p270:=R.dU (bA x-p-270)
 by_cases c:2*bA x+8 < -p
 ·have dL:fV.vQ x p=bV.oP (shD false ((x.1.natAbs:Int),x.2) (p+32)) (-1,bA x-p-3):=by unfold fV.vQ;rw[e1,if_pos c]
  have dH:fV.uH x p=shD true ((x.1.natAbs:Int),x.2) (p+32):=by unfold fV.uH;rw[e1,if_pos c]
  have pX:=zA hx;have vX:=Em x;have tX:=aSY x;have n1:=(Hu false ((x.1.natAbs:Int),x.2) (n:=p+32) (by omega)).1 rfl;have n2:=(Hu true ((x.1.natAbs:Int),x.2) (n:=p+32) (by omega)).2 rfl;rw[vX,show(1:Int)-(p+32)=-p-31 by omega,<-hz,R.bS (cGW T0)]at n1 n2;have aXI:bLF ((x.1.natAbs:Int),x.2):=⟨pX,by unfold bA at tX h1;dsimp only at *;omega⟩;obtain⟨s1,s2⟩:=Rz (up:=false) (n:=p+32) aXI (by omega);obtain⟨s3,s4⟩:=Rz (up:=true) (n:=p+32) aXI (by omega);have x1:=aYY false ((x.1.natAbs:Int),x.2) (n:=p+32) (by rw[tX];omega);have x2:=Ba true ((x.1.natAbs:Int),x.2) (p+32).toNat;rw[tX]at x1;rw[show(((p+32).toNat:Nat):Int)=p+32 by omega]at x2;have pm:=Yc (k:=bA x-p-3) (by omega);have T1:R.ab (R.qz x)<=R.pz (bA x+1):=cGW t2;have L0:0<=R.qz (shD false ((x.1.natAbs:Int),x.2) (p+32)):=by grind
  have bJA:bV.kY (shD false ((x.1.natAbs:Int),x.2) (p+32)) (-1,bA x-p-3)=true:=by
   refine aDQ (E:=bA x-p-40) (n:=(p+41).toNat) s2 pm (by omega) (by dsimp only;omega) ?_ ?_ (by omega) (by omega) (by omega)
   ·rw[show bA x-p-40+(((p+41).toNat:Nat):Int)=bA x+1 by omega,R.bS L0];grind
   ·rw[Lh,R.iZ,R.bS (cGW (R.dU _))];exact R.cY (by omega)
  have pl:=Uf s2 pm bJA;have xl:=aHN (p:=shD false ((x.1.natAbs:Int),x.2) (p+32)) (q:=(-1,bA x-p-3)) (E:=bA x-p-40) (by omega) (by dsimp only;omega) (by omega);have ql:=Ud (shD false ((x.1.natAbs:Int),x.2) (p+32)) (-1,bA x-p-3);rw[Lh,q3]at ql;rw[<-dL]at pl xl ql;rw[<-dH]at s4 x2 n2;have cube:R.ab (R.qz x)-z*R.pz (bA x)*268435456/16<=R.sn (R.ab (R.qz x)):=by
   have s:=(R.xY (cGW T0) (show R.ab (R.qz x)<=1 by grind)).1;have a1:R.ab (R.qz x)*R.ab (R.qz x)<=R.pz (bA x+1)*R.pz (bA x+1):=R.cB (cGW T0) T1 (cGW T0) T1;rw[<-R.jQ]at a1;have a2:R.pz (bA x+1+(bA x+1))<=R.pz (-p-7):=R.cY (by omega);have a3:R.pz (-p-7)=16777216*z:=by
    have:=R.fU (-p-7) (n:=24) (c:=16777216) (by norm_cast);rw[show -p-7-((24:Nat):Int)=-p-31 by omega,<-hz]at this;grind
   have a4:=R.aG (show 0<=16777216*z-R.ab (R.qz x)*R.ab (R.qz x) by grind) (cGW T0);rw[R.kF]at T1;have a5:=R.aG (cGW z0) (show 0<=2*R.pz (bA x)-R.ab (R.qz x) by grind);generalize R.ab (R.qz x)=T at *;grind
  have bUM:=cHI z0 tp;refine⟨pl,s4,?_,by omega,?_,?_,?_,?_,fun h=>absurd c h,?_,fun _=>⟨s3,s1,s2,bJA⟩,fun h=>absurd c h⟩
  ·have v:R.ab (R.qz (fV.vQ x p))<=R.pz (bA x+1):=by
    rw[R.bS (by grind)];grind
   have:=aRC xl v;omega
  ·rw[q2]at aUI;grind
  ·grind
  ·rw[q1];grind
  ·grind
  ·grind
 ·have dL:fV.vQ x p=shD false (bQ.Ks (aW.Ec x p).1 (2^(2*aW.hv x p+22)) (aW.w2 x p)) (p+32):=by unfold fV.vQ;rw[e1,if_neg c]
  have dH:fV.uH x p=bQ.zO (shD true (bQ.Eg (aW.Ec x p).1 (2^(2*aW.hv x p+22)) (aW.w2 x p)) (p+32)):=by unfold fV.uH;rw[e1,if_neg c]
  obtain⟨b1,b2,b3⟩:=aAA h0 (by grind) (by omega) ht hp;have hV:R.pz (bA x-1)<=R.sn (R.ab (R.qz x)):=by
   have:=R.oJ (bA x);grind
  obtain⟨a1,a2,a3,a4,a5,a6⟩:=bIZ h0 (by omega) ht hp hV (by grind) b2;have a7:=a1.2.2.2.2.2;have c1:=Ba false (bQ.Ks (aW.Ec x p).1 (2^(2*aW.hv x p+22)) (aW.w2 x p)) (p+32).toNat;have c2:=Ba true (bQ.Eg (aW.Ec x p).1 (2^(2*aW.hv x p+22)) (aW.w2 x p)) (p+32).toNat;rw[show(((p+32).toNat:Nat):Int)=p+32 by omega]at c1 c2;obtain⟨k1,k2,k3,k4⟩:=aHI (shD true (bQ.Eg (aW.Ec x p).1 (2^(2*aW.hv x p+22)) (aW.w2 x p)) (p+32));have c3:=aQX (n:=80000) (by omega) (show bl (shD true (bQ.Eg (aW.Ec x p).1 (2^(2*aW.hv x p+22)) (aW.w2 x p)) (p+32)).1.natAbs<=80000 by omega);have c4:=aFS a7;rw[<-dL]at a2 a3 a4 c1;rw[<-dH]at k1 k2 k3 k4 c3 c4;generalize shD true (bQ.Eg (aW.Ec x p).1 (2^(2*aW.hv x p+22)) (aW.w2 x p)) (p+32)=hi at *;rw[<-hz]at a4 a6;have zV:=R.aG (cGW z0) (show 0<=R.ab (R.qz x)-R.sn (R.ab (R.qz x)) by grind);have hm:R.sn (R.ab (R.qz x))+R.pz (bA x-p-270)<=R.qz (fV.uH x p):=by
   refine k4 _ a5 ?_;rw[q2]at aUI;grind
  refine⟨a2,c4,by omega,c3,a3,by grind,?_,k1,fun _=>hm,?_,fun h=>absurd h c,fun _=>⟨⟨⟨by omega,by omega⟩,b1⟩,a1⟩⟩
  ·rw[q1];rw[q2]at a4 a6;grind
  ·rw[q2]at a4;grind
structure bLG(x:Int×Int)(p:Int):Prop where
 pl:kQ (bN.tW x p)
 ph:kQ (bN.sW x p)
 bl:bl (bN.tW x p).1.natAbs<=80000
 bh:M.bl (bN.sW x p).1.natAbs<=80000
 lo:R.qz (bN.tW x p)<=R.cs (R.ab (R.qz x))
 hi:R.cs (R.ab (R.qz x))<=R.qz (bN.sW x p)
 wd:R.qz (bN.sW x p)-R.qz (bN.tW x p)<=R.pz (-p-1)
 one:R.qz (bN.sW x p)<=1
 ml:x.1≠0->R.qz (bN.tW x p)<=R.cs (R.ab (R.qz x))-R.pz (bA x-p-270)
 mh:x.1≠0->¬2*bA x+8 < -p->R.cs (R.ab (R.qz x))+R.pz (bA x-p-270)<=R.qz (bN.sW x p)
 bLV:x.1≠0->2*bA x+8 < -p->bV.kY (1,0) (-1,-p-3)=true
 okB:x.1≠0->¬2*bA x+8 < -p->bN.Vv x p/\bN.aRF (aW.Ec x p).2 (2^(2*aW.hv x p+22)) (aW.w2 x p) (p+32)
theorem Ow{x:Int×Int}{p:Int}(hT:R.ab (R.qz x)<=4/5)(ht:x.1≠0->-1200<=bA x)(hp:1<=p/\p<=67100):bLG x p:=by
 obtain⟨z,hz⟩:∃z,z=R.pz (-p-31):=⟨_,rfl⟩;have z0:=R.dU (-p-31);have q1:R.pz (-p-1)=1073741824*z:=by
  have:=R.fU (-p-1) (n:=30) (c:=1073741824) (by norm_cast);rw[show -p-1-((30:Nat):Int)=-p-31 by omega,<-hz]at this;grind
 have sm:=aXA hp.1;rw[q1]at sm;rw[<-hz]at z0
 by_cases h0:x.1=0
 ·have dL:bN.tW x p=(1,0):=by unfold bN.tW;rw[if_pos h0]
  have dH:bN.sW x p=(1,0):=by unfold bN.sW;rw[if_pos h0]
  have c1:R.cs (R.ab (R.qz x))=1:=by rw[R.pV h0,R.bS (cID),R.aHD]
  refine⟨by rw[dL];exact Cz,by rw[dH];exact Cz,by rw[dL];decide +kernel,by rw[dH];decide +kernel,by rw[dL,qT,c1];exact cID,by rw[dH,qT,c1];exact cID,?_,by rw[dH,qT];exact cID,fun h=>absurd h0 h,fun h=>absurd h0 h,fun h=>absurd h0 h,fun h=>absurd h0 h⟩;rw[dL,dH,q1];grind
 ·have ht:=ht h0;have h1:=aEL h0 hT;obtain⟨e1,e2,h4,h5,h6,bQA,bPZ⟩:=Gw h0 (by omega) ht hp;obtain⟨t1,t2⟩:=pZ h0;have tp:=R.dU (bA x);have T0:0<R.ab (R.qz x):=by grind
  obtain⟨v1,v2⟩:=R.Zt (r:=R.ab (R.qz x)) (by rw[R.bS (cGW T0)];exact hT);have T1:R.ab (R.qz x)<=R.pz (bA x+1):=cGW t2;have pt:R.pz (bA x)<=1/2:=by
   have:=R.cY (show bA x+1<=0 by omega);rw[R.kF,R.fM]at this;grind
  have q2:R.pz (bA x-p-61)=z*R.pz (bA x)/1073741824:=by
   have:=R.fU (-p-31+bA x) (n:=30) (c:=1073741824) (by norm_cast);rw[show -p-31+bA x-((30:Nat):Int)=bA x-p-61 by omega,R.jQ,<-hz]at this;grind
  have zt:=R.aG (cGW z0) (show 0<=1/2-R.pz (bA x) by grind);have bUM:=cHI z0 tp;have aUI:R.pz (bA x-p-270)<=R.pz (bA x-p-61):=R.cY (by omega);rw[q2]at aUI;have cs2:=R.Gq (cGW T0) (show R.ab (R.qz x)<=1 by grind)
  by_cases c:2*bA x+8 < -p
  ·have dL:bN.tW x p=bV.oP (1,0) (-1,-p-3):=by unfold bN.tW;rw[e1,if_neg h0,if_pos c]
   have dH:bN.sW x p=(1,0):=by unfold bN.sW;rw[e1,if_neg h0,if_pos c]
   have pm:=Yc (k:=-p-3) (by omega);have o1:R.ab (R.qz (1,0))<=R.pz 0:=by rw[qT,R.fM,R.bS (by grind)];exact cID
   have bJA:bV.kY (1,0) (-1,-p-3)=true:=by
    refine aDQ (E:=-p-3) (n:=(p+3).toNat) Cz pm (by dsimp only;omega) (by dsimp only;omega) ?_ ?_ (by omega) (by omega) (by omega)
    ·rw[show -p-3+(((p+3).toNat:Nat):Int)=0 by omega];exact o1
    ·rw[Lh,R.iZ,R.bS (cGW (R.dU _))];exact R.cY (by omega)
   have pl:=Uf Cz pm bJA;have xl:=aHN (p:=(1,0)) (q:=(-1,-p-3)) (E:=-p-3) (by dsimp only;omega) (by dsimp only;omega) (by omega);have ql:=Ud (1,0) (-1,-p-3);have q3:R.pz (-p-3)=268435456*z:=by
    have:=R.fU (-p-3) (n:=28) (c:=268435456) (by norm_cast);rw[show -p-3-((28:Nat):Int)=-p-31 by omega,<-hz]at this;grind
   rw[Lh,qT,q3]at ql;rw[<-dL]at pl xl ql;have lo:R.qz (bN.tW x p)<=R.cs (R.ab (R.qz x))-R.pz (bA x-p-270):=by
    have a1:R.ab (R.qz x)*R.ab (R.qz x)<=R.pz (bA x+1)*R.pz (bA x+1):=R.cB (cGW T0) T1 (cGW T0) T1;rw[<-R.jQ]at a1;have a2:R.pz (bA x+1+(bA x+1))<=R.pz (-p-7):=R.cY (by omega);have a3:R.pz (-p-7)=16777216*z:=by
     have:=R.fU (-p-7) (n:=24) (c:=16777216) (by norm_cast);rw[show -p-7-((24:Nat):Int)=-p-31 by omega,<-hz]at this;grind
    grind
   refine⟨pl,by rw[dH];exact Cz,?_,by rw[dH];decide +kernel,?_,by rw[dH,qT];exact v2,?_,by rw[dH,qT];exact cID,fun _=>lo,fun _ h=>absurd c h,fun _ _=>bJA,fun _ h=>absurd c h⟩
   ·have v:R.ab (R.qz (bN.tW x p))<=R.pz 0:=by
     rw[R.fM,R.bS (by grind)];grind
    have:=aRC xl v;omega
   ·have:=R.dU (bA x-p-270);grind
   ·rw[dH,qT,q1];grind
  ·have dL:bN.tW x p=shD false (bQ.Ks (aW.Ec x p).2 (2^(2*aW.hv x p+22)) (aW.w2 x p)) (p+32):=by unfold bN.tW;rw[e1,if_neg h0,if_neg c]
   have dH:bN.sW x p=bQ.zO (shD true (bQ.Eg (aW.Ec x p).2 (2^(2*aW.hv x p+22)) (aW.w2 x p)) (p+32)):=by unfold bN.sW;rw[e1,if_neg h0,if_neg c]
   obtain⟨b1,b2,b3⟩:=aAA h0 (by grind) (by omega) ht hp;have hV:R.pz (bA x-1)<=R.cs (R.ab (R.qz x)):=by
    have:=R.oJ (bA x);grind
   obtain⟨a1,a2,a3,a4,a5,a6⟩:=bIZ h0 (by omega) ht hp hV v2 b3;have a7:=a1.2.2.2.2.2;have c1:=Ba false (bQ.Ks (aW.Ec x p).2 (2^(2*aW.hv x p+22)) (aW.w2 x p)) (p+32).toNat;have c2:=Ba true (bQ.Eg (aW.Ec x p).2 (2^(2*aW.hv x p+22)) (aW.w2 x p)) (p+32).toNat;rw[show(((p+32).toNat:Nat):Int)=p+32 by omega]at c1 c2;obtain⟨k1,k2,k3,k4⟩:=aHI (shD true (bQ.Eg (aW.Ec x p).2 (2^(2*aW.hv x p+22)) (aW.w2 x p)) (p+32));have c3:=aQX (n:=80000) (by omega) (show bl (shD true (bQ.Eg (aW.Ec x p).2 (2^(2*aW.hv x p+22)) (aW.w2 x p)) (p+32)).1.natAbs<=80000 by omega);have c4:=aFS a7;rw[<-dL]at a2 a3 a4 c1;rw[<-dH]at k1 k2 k3 k4 c3 c4;generalize shD true (bQ.Eg (aW.Ec x p).2 (2^(2*aW.hv x p+22)) (aW.w2 x p)) (p+32)=hi at *;rw[<-hz]at a4 a6;have zV:=R.aG (cGW z0) (show 0<=1-R.cs (R.ab (R.qz x)) by grind);have m9:=R.dU (bA x-p-270);have room:R.cs (R.ab (R.qz x))+R.pz (bA x-p-270)<=1:=by
    have a1:R.pz (bA x)*R.pz (bA x)<=R.ab (R.qz x)*R.ab (R.qz x):=R.cB (cGW tp) t1 (cGW tp) t1;rw[<-R.jQ]at a1;have a2:R.pz (-p-9)<=R.pz (bA x+bA x):=R.cY (by omega);have a3:R.pz (-p-9)=4194304*z:=by
     have:=R.fU (-p-9) (n:=22) (c:=4194304) (by norm_cast);rw[show -p-9-((22:Nat):Int)=-p-31 by omega,<-hz]at this;grind
    have a5:=R.cB (cGW T0) hT (cGW T0) hT;have a6:=R.aG (show 0<=R.ab (R.qz x)*R.ab (R.qz x) by grind) (show 0<=16/25-R.ab (R.qz x)*R.ab (R.qz x) by grind);generalize R.ab (R.qz x)=T at *;grind
   have hm:R.cs (R.ab (R.qz x))+R.pz (bA x-p-270)<=R.qz (bN.sW x p):=k4 _ a5 room;rw[q2]at a4 a6;refine⟨a2,c4,by omega,c3,by grind,by grind,?_,k1,fun _=>a3,fun _ _=>hm,fun _ h=>absurd h c,fun _ _=>⟨⟨⟨by omega,by omega⟩,b1⟩,a1⟩⟩;rw[q1];grind
end M
namespace W
open Go AI M
namespace Wx
def E:=mE [(12,bI.aJ)] 8 [5] [] []
def aE:=bd f241
theorem aT:Nk E aE:=nk
theorem start a:aF E f241 aE [D.s (sc (int u64 a))]=letI A:=bif cR.fH 64 a&&cT.jL 64 a then aQ (bI.lL 64 a) (bI.nA 64 a)else((0:Int),(0:Int));aN (((64:Int)=(32:Int)\/(64:Int)=(64:Int))/\0<=a/\a<18446744073709551616) (some [D.agg [sc (bool (isNeg A.fst)),ints u64 (M6.dg A.fst.natAbs),sc (int i64 A.snd)],D.s (sc (int i64 (bif cR.fH 64 a then bif cT.jL 64 a then(0:Int)else(6:Int)else(2:Int))))]):=eJ aT
def sp(b:Int):Prop×List D:=(0<=b/\b<18446744073709551616,[dD (bif cR.fH 64 b&&cT.jL 64 b then aQ (bI.lL 64 b) (bI.nA 64 b)else(0,0)),.s (.sc (.int .i64 (bif cR.fH 64 b then(bif cT.jL 64 b then 0 else 6)else 2)))])
theorem spec:iS E f241 aE (pN .u64) sp:=fun b h=>(start b).trans (gP ⟨Or.inr rfl,h.1,h.2⟩)
def aJ:dJ:=orc1 (pN .u64) sp
theorem ok:OK 241 aJ:=(dY E aE (aA bI.ok aC) func241).oU rfl spec
end Wx
namespace Fj
def E:=mE [(51,aKB.aJ)] 5 [] [] []
def aE:=bd f244
theorem aT:Nk E aE:=nk
theorem start a:aF E f244 aE [D.s (sc (int i64 a))]=aN ((-9223372036854775808:Int)<=a/\a<9223372036854775808) (some [D.agg [sc (bool (isNeg a)),ints u64 (M6.dg a.natAbs)]]):=eJ aT
def sp(a:Int):Prop×List D:=(-9223372036854775808<=a/\a<9223372036854775808,[wD a])
theorem spec:iS E f244 aE (pN .i64) sp:=fun a h=>(start a).trans (gP h)
def aJ:dJ:=orc1 (pN .i64) sp
theorem ok:OK 244 aJ:=(dY E aE (aA aKB.ok aC) func244).oU rfl spec
end Fj
namespace uV
def E:=mE [(244,Fj.aJ),(50,kB.aJ),(158,Ku.aJ)] 22 [] [] []
def aE:=bd f242
theorem aT:Nk E aE:=nk
theorem start a b c:aF E f242 aE [D.agg [sc (bool a),ints u64 b,sc (int i64 c)]]=letI F:=(false,b,c);letI C:=wv (isNeg 3,M6.dg (cLR 3));letI A:=bif iN C (-2:Int)then aQ C (-2:Int)else((0:Int),(0:Int));letI B:=(isNeg A.fst,M6.dg A.fst.natAbs,A.snd);aN ((-9223372036854775808:Int)<=(3:Int)/\(3:Int)<(9223372036854775808:Int)) (aN (iE (isNeg 3,M6.dg 3)/\(-9223372036854775808:Int)<=(-2:Int)/\(-2:Int)<(9223372036854775808:Int)) (aN (aU F/\aU B) (some [D.s (sc (bool (decide (lF (bV.oD (dv F) (dv B)) (bV.oC (dv F) (dv B))<=0))))]))):=eJ aT
def aSG(p:Int×Int):Bool:=decide (eZ ((p.1.natAbs:Int),p.2) (3,-2)<=0)
def sp(x:gW):Prop×List D:=(aU x,[.s (.sc (.bool (aSG (dv x))))])
theorem spec:iS E f242 aE kA sp:=by
 intro x h;have hx:aU x:=h;refine(start x.1 x.2.1 x.2.2).trans ?_;have e3:wv (isNeg 3,M6.dg (cLR 3))=3:=oI 3;have i3:iN 3 (-2)=true:=by decide +kernel
 have n3:aQ 3 (-2)=(3,-2):=by decide +kernel
 have p3:kQ (3,-2):=by
  have:=iF (z:=3) (e:=-2) i3 (by decide +kernel);rw[n3]at this;exact this
 have d3:=dW p3;have v3:=dZ (3,-2);dsimp only at d3 v3;have ok:aU (false,x.2.1,x.2.2):=⟨⟨hx.1.1,fun hf=>(by cases hf),hx.1.len⟩,hx.2⟩;have vx:dv (false,x.2.1,x.2.2)=((((dv x).1.natAbs:Nat):Int),(dv x).2):=by
  rw[show(dv x).1.natAbs=M6.val x.2.1 from iY (x.1,x.2.1)];rfl
 rw[gP ⟨by decide,by decide⟩,gP ⟨gL (z:=3) (by decide +kernel),by decide,by decide⟩];simp only[e3,i3,n3,cond_true];rw[gP ⟨ok,d3⟩,v3,vx];rfl
def aJ:dJ:=orc1 kA sp
theorem ok:OK 242 aJ:=(dY E aE (aA Fj.ok (aA kB.ok (aA Ku.ok aC))) func242).oU rfl spec
end uV
end W
namespace R
open W.Arctan
theorem El{k w:Nat}(hk:2<=k):∀f j p m,2^w/k^(2*j+1)<4^f->m<=p->(j%2=1->m+iU k w j<=p) ->
  ∃N J,rounds k f (2^w/k^(2*j+1)) p m (2*j+1) j=(N,J)/\J<=j+f/\(N:Rat)=(p:Rat)-(m:Rat)+(sum (fun i=>sg i*(iU k w i:Rat)) J-sum (fun i=>sg i*(iU k w i:Rat)) j)/\iU k w J=0
 |0,j,p,m,h,hm,_=>by
  have h0:2^w/k^(2*j+1)=0:=by simpa using h
  refine⟨p-m,j,rfl,cBP _,?_,by unfold iU;rw[h0,Nat.zero_div]⟩;have:((p-m:Nat):Rat)=(p:Rat)-(m:Rat):=by
   have e:p-m+m=p:=by omega
   have e2:((p-m:Nat):Rat)+(m:Rat)=(p:Rat):=by exact_mod_cast e
   grind
  rw[this];grind
 |f+1,j,p,m,h,hm,ho=>by
  by_cases h0:2^w/k^(2*j+1)=0
  ·refine⟨p-m,j,by unfold rounds;rw[if_pos h0],by omega,?_,by unfold iU;rw[h0,Nat.zero_div]⟩;have:((p-m:Nat):Rat)=(p:Rat)-(m:Rat):=by
    have e:p-m+m=p:=by omega
    have e2:((p-m:Nat):Rat)+(m:Rat)=(p:Rat):=by exact_mod_cast e
    grind
   rw[this];grind
  ·have e1:2^w/k^(2*j+1)/k/k=2^w/k^(2*(j+1)+1):=by
    rw[cHG,cHG,show 2*(j+1)+1=2*j+1+1+1 by omega,cGO k (2*j+1+1),cGO k (2*j+1),cGS]
   have e2:2^w/k^(2*(j+1)+1)<4^f:=by
    rw[<-e1,cHG];apply cHJ;have:4<=k*k:=cMD hk hk;rw[cGO 4 f,cGN (4^f)]at h;exact cCM h (cDE _ this)
   have e3:iU k w (j+1)<=iU k w j:=by
    unfold iU;rw[<-e1];refine cCL (Nat.div_le_div_left (by omega) (by omega)) (Nat.div_le_div_right ?_);exact cCL (cKC _ _) (cKC _ _)
   have es:sum (fun i=>sg i*(iU k w i:Rat)) (j+1)=sum (fun i=>sg i*(iU k w i:Rat)) j+sg j*(iU k w j:Rat):=dX _ _;have ea:2^w/k^(2*j+1)/(2*j+1)=iU k w j:=rfl;unfold rounds;rw[if_neg h0,e1,ea,show 2*j+1+2=2*(j+1)+1 by omega]
   by_cases hc:(2*j+1)%4=1
   ·rw[if_pos hc];obtain⟨N,J,r1,r2,r3,r4⟩:=El hk f (j+1) (p+iU k w j) m e2 (by omega) (fun _=>by omega);refine⟨N,J,r1,by omega,?_,r4⟩;have:sg j=1:=by unfold sg;rw[aR]
    rw[es,this]at r3;rw[cMB]at r3;grind
   ·rw[if_neg hc];have hj:=ho (by omega);obtain⟨N,J,r1,r2,r3,r4⟩:=El hk f (j+1) p (m+iU k w j) e2 (by omega) (fun h=>by omega);refine⟨N,J,r1,by omega,?_,r4⟩;have:sg j=-1:=by unfold sg;rw[aP]
    rw[es,this]at r3;rw[cMB]at r3;grind
theorem aAE{k:Nat}(hk:2<=k){w:Nat}(hw:w<=1000000):(atan k w).2<=w+2/\ab (((atan k w).1:Rat)-((2^w:Nat):Rat)*aAD k)<=((atan k w).2:Rat)+2:=by
 have h:2^w/k^(2*0+1)<4^(w+2):=by
  rw[Ol];exact cIE (cKC _ _) (cII (by omega) (by omega))
 obtain⟨N,J,r1,r2,r3,r4⟩:=El (w:=w) hk (w+2) 0 0 0 h (cBP _) (fun h=>by omega);have e:atan k w=(N,J):=by
  unfold atan;rw[<-r1];simp
 rw[e];have hJ:J<=1048576:=by omega
 have:=aHM hk w hJ r4;refine⟨by dsimp only;omega,?_⟩;dsimp only;have e0:sum (fun i=>sg i*(iU k w i:Rat)) 0=0:=rfl;rw[e0]at r3;have e1:(N:Rat)=sum (fun i=>sg i*(iU k w i:Rat)) J:=by
  have z:((0:Nat):Rat)=0:=by norm_cast
  rw[z]at r3;grind
 rw[e1];exact this
end R
namespace W
open Go AI M
namespace Cj
def E:=mE [(144,iI.aJ),(145,dK.aJ),(250,Pr.aJ)] 55 [52] [(6,[0,1,6,7,20,21])] []
def aE:=bd f231
theorem aT:Nk E aE:=nk
def L6 a b (c:Nat) (d:List Int) e f g:=qA E f231 aE 6 [jK a,dM b,Dm 2 c 22 d,dM e,bP f,bP g]
theorem start a b:aF E f231 aE [D.s (ints u64 a),D.s (sc (int u64 b))]=letI A:=(a.length:Int);letI B:=A+(1:Int);aN (a.length<=1099511627776) (aB (!iI.qJ a) (some [D.s (sc (slice none 0 0)),D.s (sc (int i64 2))]) (if 0<=i64.wrap B/\i64.wrap B<=i64.wrap B/\i64.wrap B<=8796093022208 then Cj.L6 a b (i64.wrap B).toNat (cDS (i64.wrap B).toNat (0:Int)) 0 A 0 else none)):=eJ aT
theorem vI a b c d e f g:L6 a b c d e f g=letI C:=a.getD g.toNat 0*b%18446744073709551616+e+0;letI B:=(a.length:Int);letI A:=d.set B.toNat e;aB (decide (g<f)) (if 0<=g/\g<B then aN (0<=a.getD g.toNat 0/\a.getD g.toNat 0<(18446744073709551616:Int)/\0<=b/\b<18446744073709551616) (aN (0<=a.getD g.toNat 0*b%18446744073709551616/\0<=e/\(0:Int)<=(0:Int)/\(0:Int)<=(1:Int)) (if 0<=g/\g<(c:Int)then Cj.L6 a b c (d.set g.toNat (C%18446744073709551616)) (u64.wrap (a.getD g.toNat 0*b/18446744073709551616+C/18446744073709551616)) f (i64.wrap (g+1))else none))else none) (if 0<=B/\B<(c:Int)then aN (M6.cA A/\A.length<=1099511627776) (some [D.s (ints u64 (bif dK.nS (M6.val A)then M6.dg (M6.val A)else [])),D.s (sc (int i64 (bif dK.nS (M6.val A)then(0:Int)else(5:Int))))])else none):=lJ aT
theorem L{a:List Int}{b:Nat}(ha:M6.cA a)(hl:a.length<=8192)(hb:b<18446744073709551616):∀(k i:Nat) (pre:List Int) (c:Nat),i+k=a.length->pre.length=i->M6.cA pre->c<18446744073709551616 ->
  M6.val pre+18446744073709551616^i*c=M6.val (a.take i)*b ->
  L6 a b (a.length+1) (pre ++ cDS (k+1) 0) c a.length i=some [D.s (.ints .u64 (bif dK.nS (M6.val a*b)then M6.dg (M6.val a*b)else [])),D.s (.sc (.int .i64 (bif dK.nS (M6.val a*b)then 0 else 5)))]:=by
 intro k
 induction k with
 |zero =>
  intro i pre c hi hp hd hc hv;rw[M6.bW (by omega)]at hv;have hs:(pre ++ cDS (0+1) 0).set a.length (c:Int)=pre ++ [(c:Int)]:=by
   have:=Bb (pre:=pre) (i:=a.length) (k:=0) (by omega) (c:Int);simpa using this
  have hval:M6.val (pre ++ [(c:Int)])=M6.val a*b:=by
   rw[M6.lT,hp,cFM];exact hv
  have bOO:M6.cA (pre ++ [(c:Int)]):=M6.mA hd ⟨cLI _,by omega⟩;rw[vI,aL,if_pos ⟨by omega,by omega⟩,cFM,hs,gP ⟨bOO,by simp;omega⟩,hval]
 |succ k ih =>
  intro i pre c hi hp hd hc hv;have g:=ha.get i;obtain⟨x,hx⟩:=cGR g.1;have Ev:x<18446744073709551616:=by omega
  have bRW:x*b<=18446744073709551615*18446744073709551615:=cMD (by omega) (by omega);have e1:((x:Int)*(b:Int))=((x*b:Nat):Int):=by rw[cHN]
  have uO:M6.val (pre ++ [(((x*b%18446744073709551616+c)%18446744073709551616:Nat):Int)])+18446744073709551616^(i+1)*(x*b/18446744073709551616+(x*b%18446744073709551616+c)/18446744073709551616)=M6.val (a.take (i+1))*b:=by
   rw[M6.lT,hp,M6.bM,hx,cFM,cFM,cCJ,<-hv,cGO,cGS (18446744073709551616^i) x b,cGS (18446744073709551616^i) 18446744073709551616];have e:(x*b%18446744073709551616+c)%18446744073709551616+18446744073709551616*(x*b/18446744073709551616+(x*b%18446744073709551616+c)/18446744073709551616)=x*b+c:=by omega
   have e2:=congrArg (18446744073709551616^i*·) e;simp only[cGQ]at e2 ⊢;omega
  have bTA:x*b/18446744073709551616+(x*b%18446744073709551616+c)/18446744073709551616<18446744073709551616:=by omega
  have w1:u64.wrap ((x:Int)*(b:Int)/18446744073709551616+((x:Int)*(b:Int)%18446744073709551616+(c:Int)+0)/18446744073709551616)=((x*b/18446744073709551616+(x*b%18446744073709551616+c)/18446744073709551616:Nat):Int):=by
   rw[e1,wrap_u64];omega
  have w2:((x:Int)*(b:Int)%18446744073709551616+(c:Int)+0)%18446744073709551616=(((x*b%18446744073709551616+c)%18446744073709551616:Nat):Int):=by rw[e1];omega
  rw[vI,aM,if_pos ⟨by omega,by omega⟩,cFM,hx,gP ⟨by omega,by omega,by omega,by omega⟩,gP ⟨by rw[e1];omega,by omega,by omega,by omega⟩,if_pos ⟨by omega,by omega⟩,Bb hp,w1,w2,wrap_i64 (n:=(i:Int)+1),show(i:Int)+1=((i+1:Nat):Int)from rfl];exact ih (i+1) _ _ (by omega) (by simp[hp]) (M6.mA hd ⟨cLI _,by omega⟩) bTA uO
def sp(a:List Int)(b:Int):Prop×List D:=(M6.cN a/\a.length<=8192/\0<=b/\b<18446744073709551616,[.s (.ints .u64 (bif dK.nS (M6.val a*b.toNat)then M6.dg (M6.val a*b.toNat)else [])),.s (.sc (.int .i64 (bif dK.nS (M6.val a*b.toNat)then 0 else 5)))])
theorem spec:fN E f231 aE (pI .u64) (pN .u64) sp:=by
 rintro a b ⟨ha,hl,h0,h1⟩;obtain⟨n,rfl⟩:=cGR h0;refine(start a n).trans ?_;have w:i64.wrap ((a.length:Int)+1)=((a.length+1:Nat):Int):=by rw[wrap_i64];rfl
 have:=L (b:=n) ha.jA hl (by omega) a.length 0 [] 0 (by omega) rfl M6.mN (by omega) (by simp[M6.val]);rw[gP,iI.oW ha hl,cDP,bF,w,if_pos ⟨by omega,by omega,by omega⟩,cFM];rw[cFS]at this;exact this
def aJ:dJ:=orc2 (pI .u64) (pN .u64) sp
theorem ok:OK 231 aJ:=(dY E aE (aA iI.ok (aA dK.ok (aA Pr.ok aC))) func231).lD rfl spec
end Cj
namespace Wo
def E:=mE [(102,wC.aJ),(100,wF.aJ),(95,pQ.aJ)] 26 [14,21] [] []
def aE:=bd f232
theorem aT:Nk E aE:=nk
theorem start a b:aF E f232 aE [D.s (ints u64 a),D.s (sc (int u64 b))]=letI B:=M6.dg b.toNat;letI C:=M6.val a+M6.val B;letI A:=M6.cN a/\M6.cN B/\a.length<=8192/\B.length<=8192;aN (0<=b/\b<18446744073709551616) (aN A (aN (0<=b/\b<18446744073709551616) (aN A (some [D.s (ints u64 (M6.dg (M6.val a-M6.val B))),D.s (ints u64 (bif dK.nS C then M6.dg C else []))])))):=eJ aT
theorem aZM{v n:Nat}(hv:v<18446744073709551616^8000)(hn:n<18446744073709551616):dK.nS (v+n)=true:=by
 unfold dK.nS;refine decide_eq_true (cCL (M6.dS (k:=8001) ?_) (by decide));rw[cGO];have h1:1<=18446744073709551616^8000:=cEP (by decide);generalize 18446744073709551616^8000=X at *;omega
def sp(a:List Int)(b:Int):Prop×List D:=(M6.cN a/\a.length<=8000/\0<=b/\b<18446744073709551616,[.s (.ints .u64 (M6.dg (M6.val a-b.toNat))),.s (.ints .u64 (M6.dg (M6.val a+b.toNat)))])
theorem spec:fN E f232 aE (pI .u64) (pN .u64) sp:=by
 rintro a b ⟨hn,hl,h0,h1⟩;have hb:b.toNat<18446744073709551616:=by omega
 have lb:(M6.dg b.toNat).length<=1:=M6.dS (k:=1) (by rw[Nat.pow_one];exact hb);refine(start a b).trans ?_;have lv:=M6.dT hn.jA;have ok:dK.nS (M6.val a+b.toNat)=true:=aZM (cCM lv (cEQ (by decide) hl)) hb;rw[gP ⟨h0,h1⟩,gP ⟨hn,M6.aY _,by omega,by omega⟩,gP ⟨h0,h1⟩,gP ⟨hn,M6.aY _,by omega,by omega⟩,M6.bD,ok];rfl
def aJ:dJ:=orc2 (pI .u64) (pN .u64) sp
theorem ok:OK 232 aJ:=(dY E aE (aA wC.ok (aA wF.ok (aA pQ.ok aC))) func232).lD rfl spec
end Wo
namespace mQ
def E:=mE [(230,eB.aJ),(231,Cj.aJ),(102,wC.aJ),(232,Wo.aJ)] 45 [42] [] []
def aE:=bd f198
theorem aT:Nk E aE:=nk
theorem start a:aF E f198 aE [D.s (sc (int i64 a))]=letI K:=Arctan.atan (cPW 5) a.toNat;letI I:=Arctan.atan (cPW 239) a.toNat;letI F:=M6.dg K.fst;letI G:=bif dK.nS (M6.val F*16)then M6.dg (M6.val F*16)else [];letI C:=M6.dg I.fst;letI H:=bif dK.nS (M6.val C*4)then M6.dg (M6.val C*4)else [];letI B:=u64.wrap ((16:Int)*(↑((2:Nat)+(3:Nat)*K.snd):Int))+u64.wrap ((4:Int)*(↑((2:Nat)+(3:Nat)*I.snd):Int));letI A:=M6.dg (M6.val G-M6.val H);aN (((2:Int)<=(5:Int)/\(5:Int)<(4294967296:Int))/\0<=a/\a<=150000) (aN (((2:Int)<=(239:Int)/\(239:Int)<(4294967296:Int))/\0<=a/\a<=150000) (aN (M6.cN F/\F.length<=8192/\(0:Int)<=(16:Int)/\(16:Int)<(18446744073709551616:Int)) (aN (M6.cN C/\C.length<=8192/\(0:Int)<=(4:Int)/\(4:Int)<(18446744073709551616:Int)) (aN (M6.cN G/\M6.cN H/\G.length<=8192/\H.length<=8192) (aN (M6.cN A/\A.length<=8000/\0<=u64.wrap B/\u64.wrap B<18446744073709551616) (some [D.s (ints u64 (M6.dg (M6.val A-(u64.wrap B).toNat))),D.s (ints u64 (M6.dg (M6.val A+(u64.wrap B).toNat)))])))))):=eJ aT
def mX(w:Nat):Nat:=(Arctan.atan 5 w).1*16-(Arctan.atan 239 w).1*4
def mO(w:Nat):Nat:=16*(2+3*(Arctan.atan 5 w).2)+4*(2+3*(Arctan.atan 239 w).2)
theorem aXL(w:Nat):mO w<=60*w+160:=by
 have h1:=(Arctan.Gx 5 w).2;have h2:=(Arctan.Gx 239 w).2;unfold mO;omega
def sp(w:Int):Prop×List D:=(0<=w/\w<=150000,[.s (.ints .u64 (M6.dg (mX w.toNat-mO w.toNat))),.s (.ints .u64 (M6.dg (mX w.toNat+mO w.toNat)))])
theorem spec:iS E f198 aE (pN .i64) sp:=by
 rintro w ⟨h0,h1⟩;refine(start w).trans ?_;obtain⟨q,rfl⟩:=cGR h0;have a1:=Arctan.Gx 5 q;have a2:=Arctan.Gx 239 q;have hO:=aXL q;unfold sp;have k1:cPW 5=5:=rfl;have k2:cPW 239=239:=rfl;simp only[cFM,k1,k2,M6.bD];have eO:u64.wrap (u64.wrap (16*((2+3*(Arctan.atan 5 q).2:Nat):Int))+u64.wrap (4*((2+3*(Arctan.atan 239 q).2:Nat):Int)))=((mO q:Nat):Int):=by
  rw[wrap_u64 (n:=16*_),wrap_u64 (n:=4*_),wrap_u64];unfold mO;omega
 rw[eO];have hX:mX q<=(Arctan.atan 5 q).1*16:=cIA _ _;unfold mX at hX ⊢;generalize (Arctan.atan 5 q).1=a at *;generalize (Arctan.atan 239 q).1=b at *;have hp:2^(2*q+4+4)=16*2^(2*q+4):=by rw[cGP];omega
 have b1:a*16<2^(2*q+4+4):=by rw[hp];omega
 have b2:b*4<2^(2*q+4+4):=by rw[hp];omega
 have b3:a*16-b*4<2^(2*q+4+4):=by omega
 have l3:(M6.dg (a*16-b*4)).length<=8000:=gA (k:=8000) (cCL (dP.2 b3) (by omega));rw[gP ⟨⟨by decide,by decide⟩,by omega,by omega⟩,gP ⟨⟨by decide,by decide⟩,by omega,by omega⟩,gP ⟨M6.aY _,eB.mS a1.1 (by omega),by decide,by decide⟩,gP ⟨M6.aY _,eB.mS a2.1 (by omega),by decide,by decide⟩,
  eB.aXG b1 (by omega),eB.aXG b2 (by omega),cond_true,cond_true]
 simp only[M6.bD,cFM];rw[gP ⟨M6.aY _,M6.aY _,eB.mS b1 (by omega),eB.mS b2 (by omega)⟩,gP ⟨M6.aY _,l3,by omega,by omega⟩]
open R in
theorem num {w:Nat} (bTT:40<=w) (hw:w<=1000000):R.ab ((mX w:Rat)-((2^w:Nat):Rat)*R.pi)<=(mO w:Rat):=by
 obtain⟨j1,e1⟩:=R.aAE (k:=5) (by decide) hw;obtain⟨j2,e2⟩:=R.aAE (k:=239) (by decide) hw;have hp:=R.iH.1;have hW:(1099511627776:Rat)<=((2^w:Nat):Rat):=by
  have:2^40<=2^w:=cEQ (by decide) bTT;exact_mod_cast this
 have hO:(mO w:Rat)=16*(2+3*((Arctan.atan 5 w).2:Rat))+4*(2+3*((Arctan.atan 239 w).2:Rat)):=by
  unfold mO
  push_cast
  rfl
 have hJ1:((Arctan.atan 5 w).2:Rat)<=1000002:=by exact_mod_cast cCL j1 (by omega)
 have hJ2:((Arctan.atan 239 w).2:Rat)<=1000002:=by exact_mod_cast cCL j2 (by omega)
 have aCN:(0:Rat)<=((Arctan.atan 5 w).2:Rat):=by exact_mod_cast cHS _
 have aUS:(0:Rat)<=((Arctan.atan 239 w).2:Rat):=by exact_mod_cast cHS _
 rw[hO];clear hO;have h3:0<=R.pi-3:=by grind
 have hm:=R.aG (cGU (by decide:(0:Rat)<=1099511627776) hW) h3;have bGL:((2^w:Nat):Rat)*R.pi=16*(((2^w:Nat):Rat)*R.aAD 5)-4*(((2^w:Nat):Rat)*R.aAD 239):=by
  rw[show R.pi=16*R.aAD 5-4*R.aAD 239 from rfl];grind
 have bXT:3*((2^w:Nat):Rat)<=((2^w:Nat):Rat)*R.pi:=by grind
 rw[R.cK]at e1 e2 ⊢;have bZM:(mX w:Rat)=((mX w:Nat):Rat):=rfl;unfold mX;generalize ((2^w:Nat):Rat)*R.pi=WP at *;generalize ((2^w:Nat):Rat)*R.aAD 5=W5 at *;generalize ((2^w:Nat):Rat)*R.aAD 239=W2 at *;generalize ((2^w:Nat):Rat)=W at *;clear hm h3 hp bZM;generalize ((Arctan.atan 5 w).2:Rat)=J1 at *;generalize ((Arctan.atan 239 w).2:Rat)=J2 at *;generalize (Arctan.atan 5 w).1=a at *;generalize (Arctan.atan 239 w).1=b at *;have hle:b*4<=a*16:=by
  have:(b:Rat)*4<=(a:Rat)*16:=by
   obtain⟨e3,e4⟩:=e1;obtain⟨e5,e6⟩:=e2;grind
  exact_mod_cast this
 have hX:((a*16-b*4:Nat):Rat)=(a:Rat)*16-(b:Rat)*4:=by
  have e:(a*16-b*4)+b*4=a*16:=by omega
  have e':((a*16-b*4:Nat):Rat)+(b:Rat)*4=(a:Rat)*16:=by exact_mod_cast e
  grind
 rw[hX];obtain⟨e3,e4⟩:=e1;obtain⟨e5,e6⟩:=e2;constructor <;> grind
def aJ:dJ:=orc1 (pN .i64) sp
theorem ok:OK 198 aJ:=(dY E aE (aA eB.ok (aA Cj.ok (aA wC.ok (aA Wo.ok aC)))) func198).oU rfl spec
end mQ
namespace uC
def E:=mE [(198,mQ.aJ),(104,Hj.aJ),(101,Ck.aJ)] 39 [19,25] [(5,[0,4]),(3,[0])] [3]
def aE:=bd f152
theorem aT:Nk E aE:=nk
def J3 a:=lK E f152 aE 3 [bP a]
def L5 a b:=qA E f152 aE 5 [bP a,bP b]
theorem start a:aF E f152 aE [D.s (sc (int i64 a))]=letI A:=some [D.s (sc (slice none 0 0)),D.s (sc (int i64 1))];aB (decide (a<1)) A (aB (decide (70000<a)) A (uC.J3 a)):=eJ aT
theorem iB a:J3 a=uC.L5 a 48:=cJ aT
theorem Pu a b:L5 a b=letI G:=i64.wrap (a+b);letI B:=M6.dg (mQ.mX G.toNat+mQ.mO G.toNat);letI F:=M6.dg (M6.val B/(2:Nat)^b.toNat);letI A:=M6.dg (mQ.mX G.toNat-mQ.mO G.toNat);letI C:=M6.dg (M6.val A/(2:Nat)^b.toNat);aN (0<=i64.wrap (a+b)/\i64.wrap (a+b)<=150000) (aN (M6.cN A/\A.length<=8192/\0<=b/\b<4611686018427387904) (aN (M6.cN B/\B.length<=8192/\0<=b/\b<4611686018427387904) (aN (M6.cA C/\M6.cA F/\C.length<=1099511627776/\F.length<=1099511627776) (aB (jG (M6.val C) (M6.val F)==0) (some [D.s (ints u64 C),D.s (sc (int i64 0))]) (uC.L5 a (i64.wrap (b*2))))))):=lJ aT
def sp(p:Int):Prop×List D:=(1<=p/\p<=70000,[.s (.ints .u64 (M6.dg (R.pF p.toNat))),.s (.sc (.int .i64 0))])
theorem bFP(w:Nat):mQ.mX w<2^(2*w+8):=by
 have a1:=Arctan.Gx 5 w;have hp:2^(2*w+8)=16*2^(2*w+4):=by rw[show 2*w+8=2*w+4+4 by omega,cGP];omega
 have:mQ.mX w<=(Arctan.atan 5 w).1*16:=cIA _ _;omega
theorem spec:iS E f152 aE (pN .i64) sp:=by
 rintro p ⟨h0,h1⟩;refine(start p).trans ?_;obtain⟨q,rfl⟩:=cGR (show 0<=p by omega);have hX:=mQ.num (w:=q+48) (by omega) (by omega);have hO:=mQ.aXL (q+48);have lX:=bFP (q+48);have cAH:2*mQ.mO (q+48)<=2^(48-24):=by
  have:2^(48-24)=16777216:=by decide
  omega
 obtain⟨o1,o2,o3⟩:=R.bFG (q:=q) (g:=48) (by omega) (by omega) cAH hX;have ew:i64.wrap ((q:Int)+48)=((q+48:Nat):Int):=by rw[wrap_i64];omega
 unfold sp;rw[aL,aL,iB,Pu,ew,cFM,cFM];have hp:2^(2*(q+48)+9)=2*2^(2*(q+48)+8):=by rw[cGO];omega
 have bTT:2^40<=2^(2*(q+48)+8):=eY;have l1:=eB.mS (n:=mQ.mX (q+48)-mQ.mO (q+48)) (k:=2*(q+48)+8) (by omega) (by omega);have l2:=eB.mS (n:=mQ.mX (q+48)+mQ.mO (q+48)) (k:=2*(q+48)+9) (by omega) (by omega);rw[gP ⟨by omega,by omega⟩,gP ⟨M6.aY _,l1,by decide,by decide⟩,gP ⟨M6.aY _,l2,by decide,by decide⟩];simp only[M6.bD,show cPW 48=48 from rfl,o2,o3];have l3:(M6.dg (R.pF q)).length<=8192:=by
  rw[<-o2];exact eB.mS (k:=2*(q+48)+8) (cIE (cKC _ _) (by omega)) (by omega)
 rw[gP ⟨M6.gG _,M6.gG _,by omega,by omega⟩,bJ (by unfold jG;simp)]
def aJ:dJ:=orc1 (pN .i64) sp
theorem ok:OK 152 aJ:=(dY E aE (aA mQ.ok (aA Hj.ok (aA Ck.ok aC))) func152).oU rfl spec
end uC
namespace uW
def E:=mE [(48,Cn.aJ),(192,jY.aJ)] 37 [] [] []
def aE:=bd f254
theorem aT:Nk E aE:=nk
theorem start a c d b:aF E f254 aE [D.agg [sc (bool a),ints u64 c,sc (int i64 d)],D.s (sc (int i64 b))]=letI C:=i64.wrap ((0:Int)-d)-b;letI B:=wv (a,c)/(↑((2:Nat)^(i64.wrap C).toNat):Int);letI A:=bif fit (M6.val c*(2:Nat)^(i64.wrap (d+b)).toNat)then wv (a,c)*(↑((2:Nat)^(i64.wrap (d+b)).toNat):Int)else(0:Int);aB (decide (0<=i64.wrap (d+b))) (aN (iE (a,c)/\0<=i64.wrap (d+b)/\i64.wrap (d+b)<4611686018427387904) (some [D.agg [sc (bool (isNeg A)),ints u64 (M6.dg A.natAbs)]])) (aN (iE (a,c)/\0<=i64.wrap C/\i64.wrap C<4611686018427387904) (some [D.agg [sc (bool (isNeg B)),ints u64 (M6.dg B.natAbs)]])):=eJ aT
def aPI(p:Int×Int)(n:Int):Int:=if 0<=p.2+n then p.1*((2^(p.2+n).toNat:Nat):Int)else p.1/((2^(-p.2-n).toNat:Nat):Int)
def sp(x:gW)(n:Int):Prop×List D:=(aU x/\-1099511627776<=n/\n<=1099511627776/\(0<=x.2.2+n->fit ((dv x).1.natAbs*2^(x.2.2+n).toNat)=true),[wD (aPI (dv x) n)])
theorem spec:fN E f254 aE kA (pN .i64) sp:=by
 rintro x n ⟨hx,h1,h2,hf⟩;have he:=hx.2.1;refine(start x.1 x.2.1 x.2.2 n).trans ?_;have w1:i64.wrap (x.2.2+n)=x.2.2+n:=wrap_i64;have w2:i64.wrap (i64.wrap (0-x.2.2)-n)=-x.2.2-n:=by rw[wrap_i64 (n:=0-x.2.2),wrap_i64];omega
 have ha:(dv x).1.natAbs=M6.val x.2.1:=iY (x.1,x.2.1);unfold sp aPI
 by_cases c:0<=x.2.2+n
 ·have aXU:=hf c;rw[ha]at aXU;rw[w1,aM c,gP ⟨hx.Fp,c,by omega⟩,aXU,cond_true];dsimp only;rw[if_pos (show 0<=(dv x).2+n from c)];rfl
 ·rw[w1,w2,aL c,gP ⟨hx.Fp,by omega,by omega⟩];dsimp only;rw[if_neg (show ¬0<=(dv x).2+n from c)];rfl
def aJ:dJ:=orc2 kA (pN .i64) sp
theorem ok:OK 254 aJ:=(dY E aE (aA Cn.ok (aA jY.ok aC)) func254).lD rfl spec
end uW
namespace uS
def E:=mE [(96,fW.aJ),(151,Cg.aJ),(102,wC.aJ),(101,Ck.aJ),(190,aAR.aJ)] 66 [31,43,63] [(3,[0,4,5,6])] [3]
def aE:=bd f262
theorem aT:Nk E aE:=nk
def J3 a b c d e f:=lK E f262 aE 3 [bP a,dR 1 27 [dG b,gM c],dR 2 27 [dG d,gM e],dR 3 27 [dG f,sc (slice none 0 0)]]
theorem start a b c d e:aF E f262 aE [D.s (sc (int i64 a)),D.agg [sc (bool b),ints u64 c],D.agg [sc (bool d),ints u64 e]]=letI A:=some [D.agg [sc (bool false),sc (slice none 0 0)],D.s (sc (int i64 2))];aN (c.length<=1099511627776) (aD (fW.oZ (b,c)) fun f=>aB (!f) A (aN (e.length<=1099511627776) (aD (fW.oZ (d,e)) fun g=>aB (!g) A (uS.J3 a b c d e false)))):=eJ aT
theorem iB a b c d e f:J3 a b c d e f=aB ((e.length:Int)==(0:Int)) (some [D.agg [sc (bool false),sc (slice none 0 0)],D.s (sc (int i64 4))]) (aN (M6.cN c/\c.length<=8192/\M6.cN e/\1<=e.length/\e.length<=8192) (aD (M6.dg (M6.val c/M6.val e)) fun g=>aD (M6.dg (M6.val c%M6.val e)) fun h=>aN (M6.cN e/\M6.cN h/\e.length<=8192/\h.length<=8192) (aD (M6.dg (M6.val e-M6.val h)) fun i=>letI A:=M6.val g+bif oB.oA a (b !=d) (decide (M6.val g%2=(1:Nat))) (decide (0<(h.length:Int))) (jG (M6.val h) (M6.val i))then(1:Nat)else(0:Nat);letI B:=bif fit A then zs (b !=d) A else(0:Int);aD (if M6.val e<M6.val h then(3:Int)else(0:Int)) fun j=>aB (j !=0) (some [D.agg [sc (bool false),sc (slice none 0 0)],D.s (sc (int i64 j))]) (aN (M6.cA h/\M6.cA i/\h.length<=1099511627776/\i.length<=1099511627776) (aN (M6.cN g/\g.length<=8192) (aD (isNeg B) fun k=>aD (M6.dg B.natAbs) fun l=>aD (bif fit A then(0:Int)else(5:Int)) fun m=>some [D.agg [sc (bool k),ints u64 l],D.s (sc (int i64 m))])))))):=cJ aT
def wR(w:Int)(neg:Bool)(u v:Nat):Nat:=u/v+bif oB.oA w neg (decide (u/v%2=1)) (decide (u%v≠0)) (jG (u%v) (v-u%v))then 1 else 0
def sp(w:Int)(x y:Bool×List Int):Prop×List D:=(iE x/\iE y/\wv y≠0,wE (fit (wR w (x.1 !=y.1) (M6.val x.2) (M6.val y.2))) (zs (x.1 !=y.1) (wR w (x.1 !=y.1) (M6.val x.2) (M6.val y.2))))
theorem spec:oG E f262 aE (pN .i64) pW pW sp:=by
 rintro w x y ⟨hx,hy,h0⟩;refine(start w x.1 x.2 y.1 y.2).trans ?_;have l1:=hx.len;have l2:=hy.len;have f1:=fW.lY hx;have f2:=fW.lY hy;have hv0:M6.val y.2≠0:=fun h=>h0 (Fo.2 h)
 have bDX:y.2.length≠0:=fun h=>hv0 ((M6.cZ hy.1).1 h)
 have hm:=cDX (M6.val x.2) (show 0<M6.val y.2 by omega);have b1:=hx.bl;have b2:=hy.bl;have q1:=gA (n:=M6.val x.2/M6.val y.2) (k:=8192) (cCL (gF (cKC _ _)) b1);have q2:=gA (n:=M6.val x.2%M6.val y.2) (k:=8192) (cCL (gF (Nat.le_of_lt hm)) b2);have q3:=gA (n:=M6.val y.2-M6.val x.2%M6.val y.2) (k:=8192) (cCL (gF (cIA _ _)) b2);have hd:decide (0<(((M6.dg (M6.val x.2%M6.val y.2)).length:Nat):Int))=decide (M6.val x.2%M6.val y.2≠0):=by
  have:=M6.gJ (n:=M6.val x.2%M6.val y.2)
  by_cases h:M6.val x.2%M6.val y.2=0
  ·rw[decide_eq_false (by have:=this.2 h;omega),decide_eq_false (by omega)]
  ·rw[decide_eq_true (by have:=fun hl=>h (this.1 hl);omega),decide_eq_true h]
 simp only[aI];rw[gP,f1,cDP,bF,gP,f2,cDP,bF,iB];simp only[aI];rw[bB,gP ⟨hx.1,l1,hy.1,by omega,l2⟩,gP ⟨hy.1,M6.aY _,l2,by omega⟩,M6.bD,aP,gR rfl,gP ⟨M6.gG _,M6.gG _,by omega,by omega⟩,gP ⟨M6.aY _,by omega⟩,hd];simp only[M6.bD];rfl
def aJ:dJ:=orc3 (pN .i64) pW pW sp
theorem ok:OK 262 aJ:=(dY E aE (aA fW.ok (aA Cg.ok (aA wC.ok (aA Ck.ok (aA aAR.ok aC))))) func262).xN rfl spec
end uS
namespace Ps
def E:=mE [(262,uS.aJ)] 11 [8] [] []
def aE:=bd f255
theorem aT:Nk E aE:=nk
theorem start a b c d:aF E f255 aE [D.agg [sc (bool a),ints u64 b],D.agg [sc (bool c),ints u64 d]]=letI A:=uS.wR 2 (a !=c) (M6.val b) (M6.val d);letI B:=bif fit A then zs (a !=c) A else(0:Int);aN (iE (a,b)/\iE (c,d)/\wv (c,d)≠0) (some [D.agg [sc (bool (isNeg B)),ints u64 (M6.dg B.natAbs)],D.s (sc (int i64 (bif fit A then(0:Int)else(5:Int))))]):=eJ aT
def sp(x y:Bool×List Int):Prop×List D:=(iE x/\iE y/\wv y≠0/\fit (uS.wR 2 false (M6.val x.2) (M6.val y.2))=true,[wD (zs (x.1 !=y.1) (uS.wR 2 false (M6.val x.2) (M6.val y.2))),.s (.sc (.int .i64 0))])
theorem spec:fN E f255 aE pW pW sp:=by
 rintro x y ⟨hx,hy,h0,hf⟩;refine(start x.1 x.2 y.1 y.2).trans ((gP ⟨hx,hy,h0⟩).trans ?_);have e:uS.wR 2 (x.1 !=y.1) (M6.val x.2) (M6.val y.2)=uS.wR 2 false (M6.val x.2) (M6.val y.2):=rfl;unfold sp
 try dsimp only
 rw[e,hf];rfl
def aJ:dJ:=orc2 pW pW sp
theorem ok:OK 255 aJ:=(dY E aE (aA uS.ok aC) func255).lD rfl spec
end Ps
namespace aKA
def E:=mE [(96,fW.aJ),(105,Fh.aJ),(49,Hk.aJ)] 25 [22] [(3,[2,3,4])] [3]
def aE:=bd f256
theorem aT:Nk E aE:=nk
def J3 a b c d e:=lK E f256 aE 3 [dR 0 27 [dG a,gM b],dR 1 27 [dG c,gM d],dR 2 27 [dG e,sc (slice none 0 0)]]
theorem start a b c d:aF E f256 aE [D.agg [sc (bool a),ints u64 b],D.agg [sc (bool c),ints u64 d]]=letI A:=some [D.agg [sc (bool false),sc (slice none 0 0)],D.s (sc (int i64 2))];aN (b.length<=1099511627776) (aB (!fW.oZ (a,b)) A (aN (d.length<=1099511627776) (aB (!fW.oZ (c,d)) A (aKA.J3 a b c d false)))):=eJ aT
theorem iB a b c d e:J3 a b c d e=letI C:=zs (!c) (M6.val d);letI A:=(isNeg C,M6.dg C.natAbs);letI B:=bif fit (wv (a,b)+wv A).natAbs then wv (a,b)+wv A else(0:Int);aN (M6.cN d/\d.length<=1099511627776) (aN (iE (a,b)/\iE A) (some [D.agg [sc (bool (isNeg B)),ints u64 (M6.dg B.natAbs)],D.s (sc (int i64 (bif fit (wv (a,b)+wv A).natAbs then(0:Int)else(5:Int))))])):=cJ aT
def sp(x y:Bool×List Int):Prop×List D:=(iE x/\iE y,wE (fit (wv x-wv y).natAbs) (wv x-wv y))
theorem spec:fN E f256 aE pW pW sp:=by
 rintro x y ⟨hx,hy⟩;refine(start x.1 x.2 y.1 y.2).trans ?_;have l1:=hx.len;have l2:=hy.len;have f1:=fW.lY hx;have f2:=fW.lY hy;have e1:zs (!y.1) (M6.val y.2)=-(wv y):=by unfold wv zs;cases y.1 <;> simp
 have b2:bl (-(wv y)).natAbs<=524288:=by rw[cIJ,iY];exact hy.bl
 rw[gP,f1,cDP,bF,gP,f2,cDP,bF,iB,gP ⟨hy.1,by omega⟩,e1,gP ⟨hx,gL b2⟩,oI];rfl
def aJ:dJ:=orc2 pW pW sp
theorem ok:OK 256 aJ:=(dY E aE (aA fW.ok (aA Fh.ok (aA Hk.ok aC))) func256).lD rfl spec
end aKA
namespace aEG
def E:=mE [(256,aKA.aJ),(192,jY.aJ)] 22 [] [] []
def aE:=bd f257
theorem aT:Nk E aE:=nk
theorem start a b d e c:aF E f257 aE [D.agg [sc (bool a),ints u64 b],D.agg [sc (bool d),ints u64 e],D.s (sc (int i64 c))]=letI A:=bif fit (wv (a,b)-wv (d,e)).natAbs then wv (a,b)-wv (d,e)else(0:Int);letI C:=(isNeg A,M6.dg A.natAbs);letI B:=wv C/(↑((2:Nat)^c.toNat):Int);aN (iE (a,b)/\iE (d,e)) (aN (iE C/\0<=c/\c<4611686018427387904) (some [D.agg [sc (bool (isNeg B)),ints u64 (M6.dg B.natAbs)]])):=eJ aT
def sp(x y:Bool×List Int)(n:Int):Prop×List D:=(iE x/\iE y/\fit (wv x-wv y).natAbs=true/\0<=n/\n<4611686018427387904,[wD ((wv x-wv y)/((2^n.toNat:Nat):Int))])
theorem spec:oG E f257 aE pW pW (pN .i64) sp:=by
 rintro x y n ⟨h1,h2,h3,h4,h5⟩;have bPU:fit (wv (x.1,x.2)-wv (y.1,y.2)).natAbs=true:=h3;refine(start x.1 x.2 y.1 y.2 n).trans ?_;rw[gP ⟨h1,h2⟩];simp only[bPU,cond_true,oI];exact gP ⟨gL (zI h3),h4,h5⟩
def aJ:dJ:=orc3 pW pW (pN .i64) sp
theorem ok:OK 257 aJ:=(dY E aE (aA aKA.ok (aA jY.ok aC)) func257).xN rfl spec
end aEG
namespace aKE
def E:=mE [(96,fW.aJ),(101,Ck.aJ)] 43 [37,42] [(3,[2,3])] [3]
def aE:=bd f263
theorem aT:Nk E aE:=nk
def J3 a b c d:=lK E f263 aE 3 [dR 0 27 [dG a,gM b],dR 1 27 [dG c,gM d]]
theorem start a b c d:aF E f263 aE [D.agg [sc (bool a),ints u64 b],D.agg [sc (bool c),ints u64 d]]=letI A:=some [D.s (sc (int i64 0)),D.s (sc (int i64 2))];aN (b.length<=1099511627776) (aB (!fW.oZ (a,b)) A (aN (d.length<=1099511627776) (aB (!fW.oZ (c,d)) A (aKE.J3 a b c d)))):=eJ aT
theorem iB a b c d:J3 a b c d=letI C:=sc (int i64 0);letI A:=aB a (aN (M6.cA d/\M6.cA b/\d.length<=1099511627776/\b.length<=1099511627776) (some [D.s (sc (int i64 (jG (M6.val d) (M6.val b)))),D.s C])) (aN (M6.cA b/\M6.cA d/\b.length<=1099511627776/\d.length<=1099511627776) (some [D.s (sc (int i64 (jG (M6.val b) (M6.val d)))),D.s C]));letI B:=aB (!a) (aB c (some [D.s (sc (int i64 1)),D.s C]) A) A;aB a (aB (!c) (some [D.s (sc (int i64 (-1:Int))),D.s C]) B) B:=cJ aT
def lF(a b:Int):Int:=if a<b then -1 else if b<a then 1 else 0
def sp(x y:Bool×List Int):Prop×List D:=(iE x/\iE y,[.s (.sc (.int .i64 (lF (wv x) (wv y)))),.s (.sc (.int .i64 0))])
theorem spec:fN E f263 aE pW pW sp:=by
 rintro x y ⟨hx,hy⟩;refine(start x.1 x.2 y.1 y.2).trans ?_;have l1:=hx.len;have l2:=hy.len;have f1:=fW.lY hx;have f2:=fW.lY hy;have d1:=hx.1.jA;have d2:=hy.1.jA;have z1:=hx.2.1;have z2:=hy.2.1;rw[gP,f1,cDP,bF,gP,f2,cDP,bF,iB];unfold sp lF wv zs;obtain⟨p,a⟩:=x;obtain⟨q,b⟩:=y
 try dsimp only at *
 have g1:M6.cA b/\M6.cA a/\b.length<=1099511627776/\a.length<=1099511627776:=⟨d2,d1,by omega,by omega⟩;have g2:M6.cA a/\M6.cA b/\a.length<=1099511627776/\b.length<=1099511627776:=⟨d1,d2,by omega,by omega⟩;simp only[gP g1,gP g2];cases p with
 |true =>
  have:=z1 rfl;cases q with
  |true =>
   simp only[aB,cDP,cond_true,cond_false];have e:∀z:Int,z=(if -(M6.val a:Int) < -(M6.val b:Int)then -1 else if -(M6.val b:Int) < -(M6.val a:Int)then 1 else 0)->some [D.s (.sc (.int .i64 z)),D.s (.sc (.int .i64 0))]=some [D.s (.sc (.int .i64 (if -(M6.val a:Int) < -(M6.val b:Int)then -1 else if -(M6.val b:Int) < -(M6.val a:Int)then 1 else 0))),D.s (.sc (.int .i64 0))]:=fun z h=>by rw[h]
   refine e _ ?_;unfold jG
   (repeat' split) <;> omega
  |false =>
   simp only[aB,cNC,cond_true,cond_false];rw[aR]
 |false =>
  cases q with
  |true =>
   have:=z2 rfl;simp only[aB,cNC,cond_true,cond_false];rw[aP,aR]
  |false =>
   simp only[aB,cNC,cond_true,cond_false];have e:∀z:Int,z=(if(M6.val a:Int)<(M6.val b:Int)then -1 else if(M6.val b:Int)<(M6.val a:Int)then 1 else 0)->some [D.s (.sc (.int .i64 z)),D.s (.sc (.int .i64 0))]=some [D.s (.sc (.int .i64 (if(M6.val a:Int)<(M6.val b:Int)then -1 else if(M6.val b:Int)<(M6.val a:Int)then 1 else 0))),D.s (.sc (.int .i64 0))]:=fun z h=>by rw[h]
   refine e _ ?_;unfold jG
   (repeat' split) <;> omega
def aJ:dJ:=orc2 pW pW sp
theorem ok:OK 263 aJ:=(dY E aE (aA fW.ok (aA Ck.ok aC)) func263).lD rfl spec
end aKE
namespace rL
def E:=mE [(48,Cn.aJ),(49,Hk.aJ),(263,aKE.aJ)] 39 [] [] []
def aE:=bd f258
theorem aT:Nk E aE:=nk
theorem start a b c d e f:aF E f258 aE [D.agg [sc (bool a),ints u64 b],D.agg [sc (bool c),ints u64 d],D.agg [sc (bool e),ints u64 f]]=letI B:=bif fit (M6.val d*4)then wv (c,d)*4 else(0:Int);aN (iE (c,d)/\(0:Int)<=(2:Int)/\(2:Int)<(4611686018427387904:Int)) (aD (isNeg B) fun g=>aD (M6.dg B.natAbs) fun h=>letI A:=bif fit (wv (false,b)+wv (g,h)).natAbs then wv (false,b)+wv (g,h)else(0:Int);aN (iE (false,b)/\iE (g,h)) (aD (isNeg A) fun i=>aD (M6.dg A.natAbs) fun j=>letI C:=bif fit (M6.val j*2)then wv (i,j)*2 else(0:Int);aN (iE (i,j)/\(0:Int)<=(1:Int)/\(1:Int)<(4611686018427387904:Int)) (aD (isNeg C) fun k=>aD (M6.dg C.natAbs) fun l=>aN (iE (k,l)/\iE (e,f)) (aD (aKE.lF (wv (k,l)) (wv (e,f))) fun m=>some [D.s (sc (bool (decide (m<0))))])))):=eJ aT
theorem aWE{n k:Nat}(h:bl n<=k):bl (n*4)<=k+2:=dP.2 (by rw[cGP];exact cKB (dP.1 h) (by decide))
theorem Lw{n k:Nat}(h:bl n<=k):bl (n*2)<=k+1:=dP.2 (by rw[cGO];exact cKB (dP.1 h) (by decide))
theorem Bw{a b:Int}{n k:Nat}(ha:bl a.natAbs<=k)(hb:bl b.natAbs<=k)(hn:n=(a+b).natAbs):bl n<=k+1:=dP.2 (by
 have h1:=dP.1 ha;have h2:=dP.1 hb;rw[cGO];generalize 2^k=Q at *;omega)
def aQV(r off pi:Int):Bool:=decide (aKE.lF (((r.natAbs:Int)+off*4)*2) pi<0)
def sp(x y z:Bool×List Int):Prop×List D:=(iE x/\iE y/\iE z/\0<=wv y/\bl (wv x).natAbs<=524000/\bl (wv y).natAbs<=524000,[.s (.sc (.bool (aQV (wv x) (wv y) (wv z))))])
theorem spec:oG E f258 aE pW pW pW sp:=by
 rintro x y z ⟨h1,h2,h3,h0,b1,b2⟩;refine(start x.1 x.2 y.1 y.2 z.1 z.2).trans ?_;have ex:(x.1,x.2)=x:=rfl;have ey:(y.1,y.2)=y:=rfl;have ez:(z.1,z.2)=z:=rfl;have vy:(wv y).natAbs=M6.val y.2:=iY y;have vx:(wv x).natAbs=M6.val x.2:=iY x;have wx:wv (false,x.2)=(((wv x).natAbs:Nat):Int):=by rw[vx];rfl
 have bVM:iE (false,x.2):=⟨h1.1,fun hf=>(by cases hf),h1.len⟩;have c1:bl (wv y*4).natAbs<=524002:=by
  rw[cHC];exact aWE b2
 have f1:fit (M6.val y.2*4)=true:=decide_eq_true (by
  rw[cHC,vy]at c1;exact cCL c1 (by decide))
 rw[gP ⟨h2,by decide,by decide⟩];simp only[aI,ex,ey,ez,f1,cond_true];have oU:iE (isNeg (wv y*4),M6.dg (wv y*4).natAbs):=gL (cCL c1 (by decide));have c2:bl ((((wv x).natAbs:Nat):Int)+wv y*4).natAbs<=524003:=Bw (k:=524002) (by rw[cHH];exact cCL b1 (by decide)) c1 rfl;have f2:fit ((((wv x).natAbs:Nat):Int)+wv y*4).natAbs=true:=decide_eq_true (cCL c2 (by decide));rw[gP ⟨bVM,oU⟩];simp only[wx,oI,f2,cond_true,M6.bD];have lD:iE (isNeg ((((wv x).natAbs:Nat):Int)+wv y*4),M6.dg ((((wv x).natAbs:Nat):Int)+wv y*4).natAbs):=gL (cCL c2 (by decide));have c3:bl (((((wv x).natAbs:Nat):Int)+wv y*4).natAbs*2)<=524004:=Lw c2;have f3:fit (((((wv x).natAbs:Nat):Int)+wv y*4).natAbs*2)=true:=decide_eq_true (cCL c3 (by decide));rw[gP ⟨lD,by decide,by decide⟩,f3,cond_true,gP ⟨gL (by rw[cHC];exact cCL c3 (by decide)),h3⟩];rfl
def aJ:dJ:=orc3 pW pW pW sp
theorem ok:OK 258 aJ:=(dY E aE (aA Cn.ok (aA Hk.ok (aA aKE.ok aC))) func258).xN rfl spec
end rL
namespace cE
def E:=mE [(106,uB.aJ),(152,uC.aJ),(254,uW.aJ),(48,Cn.aJ),(255,Ps.aJ),(200,aKC.aJ),(256,aKA.aJ),(49,Hk.aJ),(244,Fj.aJ),(257,aEG.aJ),(258,rL.aJ)] 90 [89] [] []
def aE:=bd f243
theorem aT:Nk E aE:=nk
theorem start a c d b:aF E f243 aE [D.agg [sc (bool a),ints u64 c,sc (int i64 d)],D.s (sc (int i64 b))]=letI U:=(isNeg 3,M6.dg 3);letI C:=d+(↑(bl (M6.val c)):Int);letI B:=i64.wrap (b+match BinOp.gtr with |BinOp.gtr=>if(0:Int)>i64.wrap C then(0:Int)else i64.wrap C |x=>if 0<i64.wrap C then(0:Int)else i64.wrap C)+8;letI A:=i64.wrap (b+if(0:Int)>i64.wrap C then(0:Int)else i64.wrap C)+8;letI P:=uW.aPI (dv (a,c,d)) (i64.wrap A);letI I:=i64.wrap (i64.wrap A-b)+1;letI Q:=(↑((2:Nat)^(i64.wrap I).toNat):Int);aN (M6.cA c/\c.length<=1099511627776) (aN (1<=i64.wrap A/\i64.wrap A<=70000) (aD (M6.dg (R.pF (i64.wrap A).toNat)) fun e=>letI O:=(false,e);aN (aU (a,c,d)/\(-1099511627776:Int)<=i64.wrap A/\i64.wrap A<=1099511627776/\(0<=(a,c,d).snd.snd+i64.wrap B->fit ((dv (a,c,d)).fst.natAbs*(2:Nat)^((a,c,d).snd.snd+i64.wrap B).toNat)=true)) (aD (isNeg P) fun f=>aD (M6.dg P.natAbs) fun g=>letI N:=bif fit (M6.val g*2)then wv (f,g)*2 else(0:Int);aN (iE (f,g)/\(0:Int)<=(1:Int)/\(1:Int)<(4611686018427387904:Int)) (aD (isNeg N) fun h=>aD (M6.dg N.natAbs) fun i=>letI G:=uS.wR 2 false (M6.val i) (M6.val e);aN (iE (h,i)/\iE O/\wv O≠0/\fit G=true) (aD (isNeg (zs (h !=false) G)) fun j=>aD (M6.dg (zs (h !=false) G).natAbs) fun k=>letI H:=bif fit (wv (j,k)*wv O).natAbs then wv (j,k)*wv O else(0:Int);letI F:=bif fit (wv (false,k)+wv U).natAbs then wv (false,k)+wv U else(0:Int);aN (iE (j,k)/\iE O) (aD (isNeg H) fun l=>aD (M6.dg H.natAbs) fun m=>letI K:=bif fit (wv (h,i)-wv (l,m)).natAbs then wv (h,i)-wv (l,m)else(0:Int);aN (iE (h,i)/\iE (l,m)) (aD (isNeg K) fun n=>aD (M6.dg K.natAbs) fun o=>aN ((-9223372036854775808:Int)<=(3:Int)/\(3:Int)<(9223372036854775808:Int)) (aN (iE (false,k)/\iE U) (aD (isNeg F) fun p=>aD (M6.dg F.natAbs) fun q=>letI T:=wv (n,o)-wv (p,q);aN (iE (n,o)/\iE (p,q)/\fit T.natAbs=true/\0<=i64.wrap I/\i64.wrap I<4611686018427387904) (aD (isNeg (T/Q)) fun r=>aD (M6.dg (T/Q).natAbs) fun s=>aN (iE (n,o)/\iE (p,q)/\iE O/\0<=wv (p,q)/\bl (wv (n,o)).natAbs<=524000/\bl (wv (p,q)).natAbs<=524000) (aD (rL.aQV (wv (n,o)) (wv (p,q)) (wv O)) fun t=>some [D.agg [sc (bool j),ints u64 k],D.agg [sc (bool r),ints u64 s],D.s (sc (bool t))]))))))))))):=eJ aT
def qR(p:Int×Int):Int:=if 0>p.2+(bl p.1.natAbs:Nat)then 0 else p.2+(bl p.1.natAbs:Nat)
def rG(p:Int×Int)(w:Int):Int:=w+qR p+8
def rF(p:Int×Int)(w:Int):Nat:=R.pF (rG p w).toNat
def rX(p:Int×Int)(w:Int):Int:=uW.aPI p (rG p w)*2
def nK(X:Int)(f:Nat):Int:=zs (isNeg X) (uS.wR 2 false X.natAbs f)
def rK(p:Int×Int)(w:Int):Int:=nK (rX p w) (rF p w)
def rR(p:Int×Int)(w:Int):Int:=rX p w-rK p w*(rF p w:Nat)
def rO(p:Int×Int)(w:Int):Int:=((rK p w).natAbs:Nat)+3
def rM(p:Int×Int)(w:Int):Int:=(rR p w-rO p w)/((2^(rG p w-w+1).toNat:Nat):Int)
def sp(x:gW)(w:Int):Prop×List D:=(aU x/\bl (dv x).1.natAbs<=64/\(-1200<=(dv x).2/\(dv x).2<=1200)/\1<=w/\w<=66600,[wD (rK (dv x) w),wD (rM (dv x) w),.s (.sc (.bool (rL.aQV (rR (dv x) w) (rO (dv x) w) (rF (dv x) w:Nat))))])
theorem Lv{n k m:Nat}(h:bl n<=m):bl (n*2^k)<=m+k:=dP.2 (by rw[cGP];exact cKB (dP.1 h) (cEP (by decide)))
theorem aVT(X f:Nat):uS.wR 2 false X f<=X/f+1:=by
 unfold uS.wR;cases oB.oA 2 false (decide (X/f%2=1)) (decide (X%f≠0)) (jG (X%f) (f-X%f)) <;> simp
theorem aWW{X:Int}{f B:Nat}(hX:bl X.natAbs<=B)(hf:bl f<=B)(hB:2<=B) :
  bl (uS.wR 2 false X.natAbs f)<=B+1/\bl (nK X f*(f:Int)).natAbs<=B+1/\bl (X-nK X f*(f:Int)).natAbs<=B+2/\bl (((nK X f).natAbs:Int)+3).natAbs<=B+2/\bl (X-nK X f*(f:Int)-(((nK X f).natAbs:Int)+3)).natAbs<=B+3:=by
 have h1:=dP.1 hX;have h2:=dP.1 hf;have h3:=aVT X.natAbs f;have h4:X.natAbs/f*f<=X.natAbs:=Nat.div_mul_le_self _ _;have h5:X.natAbs/f<=X.natAbs:=cKC _ _;have h6:uS.wR 2 false X.natAbs f*f<=X.natAbs+f:=cCL (cDE f h3) (by rw[cCJ,cFT];omega);have ek:(nK X f).natAbs=uS.wR 2 false X.natAbs f:=kS _ _;have h7:(nK X f*(f:Int)).natAbs<=X.natAbs+f:=by rw[cHC,ek,cHH];exact h6
 have e4:4<=2^B:=cCL (show 4<=2^2 by decide) (cEQ (by decide) hB);have p1:2^(B+1)=2*2^B:=by rw[cGO];omega
 have p2:2^(B+2)=4*2^B:=by rw[cGP];omega
 have p3:2^(B+3)=8*2^B:=by rw[cGP];omega
 generalize nK X f*(f:Int)=kf at *;rw[ek];generalize uS.wR 2 false X.natAbs f=d at *;generalize 2^B=Q at *;refine⟨dP.2 ?_,dP.2 ?_,dP.2 ?_,dP.2 ?_,dP.2 ?_⟩
 ·rw[p1];omega
 ·rw[p1];omega
 ·rw[p2];omega
 ·rw[p2];omega
 ·rw[p3];omega
theorem Ug{g:Nat}(hg:g<=136000):bl (R.pF g)<=g+2/\R.pF g≠0:=by
 obtain⟨h1,h2⟩:=R.Bc hg;obtain⟨q1,q2⟩:=R.iH;have hW:(1:Rat)<=((2^g:Nat):Rat):=by exact_mod_cast cEP (by decide)
 constructor
 ·refine dP.2 ?_;rw[cGP];have:(R.pF g:Rat)<((2^g:Nat):Rat)*4:=by
   have:=R.aG (cGU (by decide:(0:Rat)<=1) hW) (show 0<=3142/1000-R.pi by grind);generalize ((2^g:Nat):Rat)=W at *;grind
  exact_mod_cast this
 ·intro h0;rw[h0]at h2;have z:((0:Nat):Rat)=0:=by norm_cast
  rw[z]at h2;have:=R.aG (cGU (by decide:(0:Rat)<=1) hW) (show 0<=R.pi-3 by grind);generalize ((2^g:Nat):Rat)=W at *;grind
theorem aFN{p:Int×Int}{w:Int}(hz:bl p.1.natAbs<=64)(e1:-1200<=p.2)(e2:p.2<=1200)(w1:1<=w)(w2:w<=66600):bl (rM p w).natAbs<=80004/\bl (rK p w).natAbs<=80002:=by
 have t0:0<=qR p/\qR p<=1264:=by unfold qR;split <;> omega
 have g1:1<=rG p w/\rG p w<=70000:=by unfold rG;omega
 have bIJ:bl (uW.aPI p (rG p w)).natAbs<=80000:=by
  unfold uW.aPI;split
  ·rw[cHC,cHH];exact cCL (Lv hz) (by omega)
  ·exact cCL (gF (tJ (cEP (by decide)))) (by omega)
 have Xs:bl (rX p w).natAbs<=80001:=by
  unfold rX;rw[cHC];exact rL.Lw bIJ
 obtain⟨Fs,F0⟩:=Ug (g:=(rG p w).toNat) (by omega);have hF:R.pF (rG p w).toNat=rF p w:=rfl;rw[hF]at Fs F0;obtain⟨s1,s2,s3,s4,s5⟩:=aWW (X:=rX p w) (f:=rF p w) (B:=80001) Xs (by omega) (by decide);refine⟨cCL (gF (tJ (cEP (by decide)))) s5,?_⟩;show bl (zs _ _).natAbs<=_;rw[kS];exact s1
theorem spec:fN E f243 aE kA (pN .i64) sp:=by
 rintro x w ⟨hx,hz,⟨e1,e2⟩,w1,w2⟩;refine(start x.1 x.2.1 x.2.2 w).trans ?_;have ha:(dv x).1.natAbs=M6.val x.2.1:=iY (x.1,x.2.1);have aKO:x.2.2=(dv x).2:=rfl;have bAB:(x.1,x.2.1,x.2.2)=x:=rfl;have len:=hx.len;unfold sp;dsimp only;simp only[bAB,aKO,<-ha];have hT:qR (dv x)=if 0>(dv x).2+(bl (dv x).1.natAbs:Nat)then 0 else(dv x).2+(bl (dv x).1.natAbs:Nat):=rfl
 have wt:i64.wrap ((dv x).2+((bl (dv x).1.natAbs:Nat):Int))=(dv x).2+((bl (dv x).1.natAbs:Nat):Int):=wrap_i64;have t0:0<=qR (dv x)/\qR (dv x)<=1264:=by rw[hT];split <;> omega
 have t1:(dv x).2+(bl (dv x).1.natAbs:Nat)<=qR (dv x):=by rw[hT];split <;> omega
 have hG:rG (dv x) w=w+qR (dv x)+8:=rfl;have wg:i64.wrap (i64.wrap (w+qR (dv x))+8)=rG (dv x) w:=by rw[wrap_i64 (n:=w+qR (dv x)),wrap_i64,hG]
 have wl:i64.wrap (i64.wrap (rG (dv x) w-w)+1)=rG (dv x) w-w+1:=by rw[wrap_i64 (n:=rG (dv x) w-w),wrap_i64]
 simp only[wt,<-hT,wg,wl,aI];have g1:1<=rG (dv x) w/\rG (dv x) w<=70000:=by omega
 have bIJ:bl (uW.aPI (dv x) (rG (dv x) w)).natAbs<=80000:=by
  unfold uW.aPI;split
  ·rw[cHC,cHH];exact cCL (Lv hz) (by omega)
  ·exact cCL (gF (tJ (cEP (by decide)))) (by omega)
 have Xs:bl (rX (dv x) w).natAbs<=80001:=by
  unfold rX;rw[cHC];exact rL.Lw bIJ
 obtain⟨Fs,F0⟩:=Ug (g:=(rG (dv x) w).toNat) (by omega);have hF:R.pF (rG (dv x) w).toNat=rF (dv x) w:=rfl;rw[hF]at Fs F0;obtain⟨s1,s2,s3,s4,s5⟩:=aWW (X:=rX (dv x) w) (f:=rF (dv x) w) (B:=80001) Xs (by omega) (by decide);have aOV:(0:Int)<=x.2.2+rG (dv x) w->fit ((dv x).1.natAbs*2^(x.2.2+rG (dv x) w).toNat)=true:=fun _=>decide_eq_true (cCL (Lv hz) (by omega))
 rw[gP ⟨hx.Kl.jA,by omega⟩,gP g1,gP ⟨hx,by omega,by omega,aOV⟩];have aSL:(x.1,x.2.1,(dv x).2)=x:=rfl;have f1:fit ((uW.aPI (dv x) (rG (dv x) w)).natAbs*2)=true:=decide_eq_true (cCL (rL.Lw bIJ) (by decide));have eX:uW.aPI (dv x) (rG (dv x) w)*2=rX (dv x) w:=rfl;have eK:zs (isNeg (rX (dv x) w)) (uS.wR 2 false (rX (dv x) w).natAbs (rF (dv x) w))=rK (dv x) w:=rfl;have vN:∀n:Nat,wv (false,M6.dg n)=(n:Int):=fun n=>by show(M6.val (M6.dg n):Int)=n;rw[M6.bD]
 have wN:∀n:Nat,bl n<=524288->iE (false,M6.dg n):=fun n hn=>by
  have:=gL (z:=(n:Int)) (by rw[cHH];exact hn);rw[gH.2 (by omega),cHH]at this;exact this
 have v3:wv (isNeg 3,M6.dg 3)=3:=oI 3;have k3:iE (isNeg 3,M6.dg 3):=gL (z:=3) (by decide +kernel);have kK:(rK (dv x) w).natAbs=uS.wR 2 false (rX (dv x) w).natAbs (rF (dv x) w):=kS _ _;rw[show nK (rX (dv x) w) (rF (dv x) w)=rK (dv x) w from rfl]at s2 s3 s4 s5;have f2:fit (rK (dv x) w*(rF (dv x) w:Nat)).natAbs=true:=decide_eq_true (cCL s2 (by decide));have f3:fit (rX (dv x) w-rK (dv x) w*(rF (dv x) w:Nat)).natAbs=true:=decide_eq_true (cCL s3 (by decide));have f4:fit (((rK (dv x) w).natAbs:Int)+3).natAbs=true:=decide_eq_true (cCL s4 (by decide));have f5:fit (rX (dv x) w-rK (dv x) w*(rF (dv x) w:Nat)-(((rK (dv x) w).natAbs:Int)+3)).natAbs=true:=decide_eq_true (cCL s5 (by decide));simp only[aSL,hF,oI,M6.bD,f1,cond_true,eX,Bool.bne_false,eK,vN,v3,f2,f3,f4];rw[gP ⟨gL (cCL bIJ (by decide)),by decide,by decide⟩,gP ⟨gL (cCL Xs (by decide)),wN _ (by omega),by omega,decide_eq_true (cCL s1 (by decide))⟩,
  gP ⟨gL (by rw[kK];exact cCL s1 (by decide)),wN _ (by omega)⟩,gP ⟨gL (cCL Xs (by decide)),gL (cCL s2 (by decide))⟩,gP ⟨by decide,by decide⟩,
  gP ⟨wN _ (by rw[kK];exact cCL s1 (by decide)),k3⟩,gP ⟨gL (cCL s3 (by decide)),gL (cCL s4 (by decide)),f5,by omega,by omega⟩,
  gP ⟨gL (cCL s3 (by decide)),gL (cCL s4 (by decide)),wN _ (by omega),by omega,cCL s3 (by decide),cCL s4 (by decide)⟩]
 rfl
def aJ:dJ:=orc2 kA (pN .i64) sp
theorem ok:OK 243 aJ:=(dY E aE (aA uB.ok (aA uC.ok (aA uW.ok (aA Cn.ok (aA Ps.ok (aA aKC.ok (aA aKA.ok (aA Hk.ok (aA Fj.ok (aA aEG.ok (aA rL.ok aC))))))))))) func243).lD rfl spec
end cE
namespace aZ
def E:=mE [(241,Wx.aJ),(242,uV.aJ),(243,cE.aJ),(192,jY.aJ),(244,Fj.aJ),(49,Hk.aJ),(50,kB.aJ),(109,aKD.aJ),(110,uR.aJ)] 105 [33,98] [(3,[0,1,5])] [3]
def aE:=bd f211
theorem aT:Nk E aE:=nk
def J3 a b c d e f:=lK E f211 aE 3 [dM a,bP b,dR 2 44 [dG c,sc (slice none 0 0),cF d,dG e,sc (slice none 0 0),cF f]]
theorem start a b:aF E f211 aE [D.s (sc (int u64 a)),D.s (sc (int i64 b))]=letI B:=int i64 0;letI A:=some [D.s (sc B),D.agg [sc (bool false),sc (slice none 0 0),sc B,sc (bool false),sc (slice none 0 0),sc B],D.s (sc (int i64 1))];aB (decide (b<1)) A (aB (decide (68000<b)) A (aZ.J3 a b false 0 false 0)):=eJ aT
theorem iB a b c d e f:J3 a b c d e f=letI O:=int i64 0;letI H:=(isNeg 4,M6.dg 4);letI C:=i64.wrap ((0:Int)-i64.wrap (b+8));letI B:=if(72:Int)>i64.wrap (b+8)then(72:Int)else i64.wrap (b+8);letI P:=B-i64.wrap (b+8);letI A:=bif cR.fH 64 a&&cT.jL 64 a then aQ (bI.lL 64 a) (bI.nA 64 a)else((0:Int),(0:Int));letI Q:=M6.dg A.fst.natAbs;aN (0<=a/\a<18446744073709551616) (aD (isNeg A.fst) fun g=>aD Q fun h=>aD A.snd fun i=>letI I:=dv (g,h,i);aD (bif cR.fH 64 a then bif cT.jL 64 a then(0:Int)else(6:Int)else(2:Int)) fun j=>aB (j !=0) (some [D.s (sc O),D.agg [sc (bool false),sc (slice none 0 0),sc O,sc (bool false),sc (slice none 0 0),sc O],D.s (sc (int i64 j))]) (aN (aU (g,h,i)) (aD (uV.aSG I) fun k=>aB k (aN (0<=a/\a<18446744073709551616) (aD (isNeg A.fst) fun l=>aD Q fun m=>aD A.snd fun n=>some [D.s (sc O),D.agg [sc (bool g),ints u64 h,sc (int i64 i),sc (bool l),ints u64 m,sc (int i64 n)],D.s (sc O)])) (aN (aU (g,h,i)/\bl I.fst.natAbs<=64/\((-1200:Int)<=I.snd/\I.snd<=1200)/\(1<=if(72:Int)>i64.wrap (b+8)then(72:Int)else i64.wrap (b+8))/\B<=66600) (aD (isNeg (cE.rK I B)) fun o=>aD (M6.dg (cE.rK I B).natAbs) fun p=>aD (isNeg (cE.rM I B)) fun q=>aD (M6.dg (cE.rM I B).natAbs) fun r=>letI K:=wv (q,r)/(↑((2:Nat)^(i64.wrap P).toNat):Int);aN (iE (q,r)/\0<=i64.wrap P/\i64.wrap P<4611686018427387904) (aD (isNeg K) fun s=>aD (M6.dg K.natAbs) fun t=>letI N:=bif fit (wv (s,t)+wv H).natAbs then wv (s,t)+wv H else(0:Int);letI F:=bif iN (wv (s,t)) C then aQ (wv (s,t)) C else((0:Int),(0:Int));aN ((-9223372036854775808:Int)<=(4:Int)/\(4:Int)<(9223372036854775808:Int)) (aN (iE (s,t)/\iE H) (aD (isNeg N) fun u=>aD (M6.dg N.natAbs) fun v=>letI G:=bif iN (wv (u,v)) C then aQ (wv (u,v)) C else((0:Int),(0:Int));aN (iE (s,t)/\(-9223372036854775808:Int)<=i64.wrap ((0:Int)-i64.wrap (b+8))/\i64.wrap ((0:Int)-i64.wrap (b+8))<9223372036854775808) (aD (isNeg F.fst) fun w=>aD (M6.dg F.fst.natAbs) fun x=>aD F.snd fun y=>aN (iE (u,v)/\(-9223372036854775808:Int)<=i64.wrap ((0:Int)-i64.wrap (b+8))/\i64.wrap ((0:Int)-i64.wrap (b+8))<9223372036854775808) (aD (isNeg G.fst) fun z=>aD (M6.dg G.fst.natAbs) fun aa=>aD G.snd fun ab=>aN ((-9223372036854775808:Int)<=(4:Int)/\(4:Int)<(9223372036854775808:Int)) (aN (iE (o,p)/\iE H/\isNeg 4=false/\1<=(M6.dg 4).length) (aD (isNeg (wv (o,p)%wv H)) fun ac=>aD (M6.dg (wv (o,p)%wv H).natAbs) fun ad=>aN (iE (ac,ad)) (aD (bif uR.uG (wv (ac,ad))then wv (ac,ad)else(0:Int)) fun ae=>some [D.s (sc (int i64 ae)),D.agg [sc (bool w),ints u64 x,sc (int i64 y),sc (bool z),ints u64 aa,sc (int i64 ab)],D.s (sc O)]))))))))))))):=cJ aT
def qN(b:Int):Int×Int:=aQ (bI.lL 64 b) (bI.nA 64 b)
def cW(p:Int):Int:=if 72>p+8 then 72 else p+8
def cM(x:Int×Int)(p:Int):Int:=cE.rM x (cW p)/((2^(cW p-(p+8)).toNat:Nat):Int)
def cQ(x:Int×Int)(p:Int):Int:=bif uV.aSG x then 0 else cE.rK x (cW p)%4
def aBE(x:Int×Int)(p:Int):Int×Int:=bif uV.aSG x then x else aQ (cM x p) (-(p+8))
def aBF(x:Int×Int)(p:Int):Int×Int:=bif uV.aSG x then x else aQ (cM x p+4) (-(p+8))
def sp(b p:Int):Prop×List D:=((0<=b/\b<18446744073709551616)/\cR.fH 64 b=true/\cT.jL 64 b=true/\(1<=p/\p<=66590)/\kQ (qN b)/\bl (qN b).1.natAbs<=64/\-1200<=(qN b).2/\(qN b).2<=1200,[.s (.sc (.int .i64 (cQ (qN b) p))),wY (aBE (qN b) p) (aBF (qN b) p),.s (.sc (.int .i64 0))])
theorem aHL{z:Int}{k:Nat}(h:bl z.natAbs<=k)(hk:3<=k):bl (z+4).natAbs<=k+1:=rL.Bw h (by rw[show(4:Int).natAbs=4 from rfl,show bl 4=3 from rfl];exact hk) rfl
theorem spec:fN E f211 aE (pN .u64) (pN .i64) sp:=by
 rintro b p ⟨hb,hp,hf,⟨p1,p2⟩,hx,hz,e1,e2⟩;refine(start b p).trans ?_;unfold sp cQ aBE aBF;dsimp only;have eb:(bif cR.fH 64 b&&cT.jL 64 b then aQ (bI.lL 64 b) (bI.nA 64 b)else(0,0))=qN b:=by rw[hp,hf];rfl
 have ee:(bif cR.fH 64 b then(bif cT.jL 64 b then 0 else 6)else 2:Int)=0:=by rw[hp,hf];rfl
 have dk:=dW hx;have dc:=dZ (qN b);rw[aL,aL,iB,gP hb];simp only[aI,eb,ee,dc];rw[gR rfl,gP dk];cases hs:uV.aSG (qN b)with
 |true =>
  rw[cond_true,cond_true,cond_true];show aN _ _=_;rw[gP hb];rfl
 |false =>
  rw[cond_false,cond_false,cond_false];show aN _ _=_;have w8:i64.wrap (p+8)=p+8:=wrap_i64;have eW:(if 72>p+8 then 72 else p+8)=cW p:=rfl;have hW:1<=cW p/\cW p<=66600/\p+8<=cW p:=by unfold cW;split <;> omega
  have wd:i64.wrap (cW p-(p+8))=cW p-(p+8):=wrap_i64;have w0:i64.wrap (0-(p+8))=-(p+8):=by rw[wrap_i64];omega
  obtain⟨sM,sK⟩:=cE.aFN (p:=qN b) (w:=cW p) hz e1 e2 hW.1 hW.2.1;have v4:wv (isNeg 4,M6.dg 4)=4:=oI 4;have k4:iE (isNeg 4,M6.dg 4):=gL (z:=4) (by decide +kernel);have eM:cE.rM (qN b) (cW p)/((2^(cW p-(p+8)).toNat:Nat):Int)=cM (qN b) p:=rfl;have sC:bl (cM (qN b) p).natAbs<=80004:=cCL (gF (tJ (cEP (by decide)))) sM;have bRC:=aHL sC (by decide);have f4:fit (cM (qN b) p+4).natAbs=true:=decide_eq_true (cCL bRC (by decide));have i1:iN (cM (qN b) p) (-(p+8))=true:=iL (by omega) (by omega);have i2:iN (cM (qN b) p+4) (-(p+8))=true:=iL (by omega) (by omega);have m4:0<=cE.rK (qN b) (cW p)%4/\cE.rK (qN b) (cW p)%4<4:=by omega
  have sm:uR.uG (cE.rK (qN b) (cW p)%4)=true:=by
   unfold uR.uG;simp only[cBV,decide_eq_true_eq];omega
  have b3:bl (cE.rK (qN b) (cW p)%4).natAbs<=3:=dP.2 (by have:(2:Nat)^3=8:=rfl;omega);have l4:(M6.dg 4).length=1:=by decide +kernel
  simp only[w8,eW,wd,w0,oI,v4,eM,f4,i1,i2,sm,cond_true];rw[gP ⟨dk,hz,⟨e1,e2⟩,hW.1,hW.2.1⟩,gP ⟨gL (cCL sM (by decide)),by omega,by omega⟩,gP ⟨by decide,by decide⟩,gP ⟨gL (cCL sC (by decide)),k4⟩,
   gP ⟨gL (cCL sC (by decide)),by omega,by omega⟩,gP ⟨gL (cCL bRC (by decide)),by omega,by omega⟩,gP ⟨by decide,by decide⟩,
   gP ⟨gL (cCL sK (by decide)),k4,by decide,by omega⟩,gP (gL (cCL b3 (by decide)))]
  rfl
def aJ:dJ:=orc2 (pN .u64) (pN .i64) sp
theorem ok:OK 211 aJ:=(dY E aE (aA Wx.ok (aA uV.ok (aA cE.ok (aA jY.ok (aA Fj.ok (aA Hk.ok (aA kB.ok (aA aKD.ok (aA uR.ok aC))))))))) func211).lD rfl spec
end aZ
end W
namespace M
open Go AI W
theorem aJM{u v:Nat}(hv:0<v):2*u<=2*(uS.wR 2 false u v*v)+v/\2*(uS.wR 2 false u v*v)<=2*u+v:=by
 have hd:=cGV u v;have hm:=cDX u hv;have hc:v*(u/v)=u/v*v:=cGN _ _;unfold uS.wR oB.oA
 by_cases h:v-u%v<=u%v
 ·cases hb:(bif (2:Int)==0 then false&&decide (u%v≠0)else bif (2:Int)==1 then !false&&decide (u%v≠0)else(decide (0<jG (u%v) (v-u%v))||(jG (u%v) (v-u%v)==0&&decide (u/v%2=1))))with
  |true=>rw[cond_true,cCJ,cFT];omega
  |false =>
   rw[cond_false,cCN];have Bp:¬0<jG (u%v) (v-u%v):=by
    intro hh;rw[decide_eq_true hh]at hb
    revert hb
    simp
   have:u%v<=v-u%v:=by
    unfold jG at Bp;split at Bp
    ·omega
    ·split at Bp <;> omega
   omega
 ·have e:jG (u%v) (v-u%v)=-1:=by unfold jG;rw[aR]
  rw[e];have hb:(bif (2:Int)==0 then false&&decide (u%v≠0)else bif (2:Int)==1 then !false&&decide (u%v≠0)else(decide ((0:Int) < -1)||((-1:Int)==0&&decide (u/v%2=1))))=false:=by
   cases decide (u/v%2=1) <;> rfl
  rw[hb,cond_false,cCN];omega
theorem aUF{X:Int}{f:Nat}(hf:0<f):-(f:Rat)<=2*((X:Rat)-(cE.nK X f:Rat)*(f:Rat))/\2*((X:Rat)-(cE.nK X f:Rat)*(f:Rat))<=(f:Rat):=by
 obtain⟨d1,d2⟩:=aJM (u:=X.natAbs) hf;have h:-(f:Int)<=2*(X-cE.nK X f*(f:Int))/\2*(X-cE.nK X f*(f:Int))<=(f:Int):=by
  have cBC:2*(X.natAbs:Int)<=2*((uS.wR 2 false X.natAbs f:Nat)*(f:Int))+f:=by exact_mod_cast d1
  have cBB:2*((uS.wR 2 false X.natAbs f:Nat)*(f:Int))<=2*(X.natAbs:Int)+f:=by exact_mod_cast d2
  unfold cE.nK;generalize uS.wR 2 false X.natAbs f=d at *;cases hb:isNeg X with
  |true =>
   have:X<0:=kJ.1 hb;have e:zs true d*(f:Int)=-((d:Int)*(f:Int)):=by show -(d:Int)*_=_;rw[cLF]
   rw[e];generalize (d:Int)*(f:Int)=P at *;omega
  |false =>
   have:0<=X:=gH.1 hb;have e:zs false d*(f:Int)=(d:Int)*(f:Int):=rfl;rw[e];generalize (d:Int)*(f:Int)=P at *;omega
 obtain⟨h1,h2⟩:=h;constructor
 ·have:((-(f:Int):Int):Rat)<=((2*(X-cE.nK X f*(f:Int)):Int):Rat):=by exact_mod_cast h1
  rw[cOO,cNA,cPV,cNA,cNB]at this;exact this
 ·have:((2*(X-cE.nK X f*(f:Int)):Int):Rat)<=((f:Int):Rat):=by exact_mod_cast h2
  rw[cNA,cPV,cNA,cNB]at this;exact this
theorem aLU{q:Rat}{a b:Int}(h1:R.pz a<=q)(h2:q<R.pz (a+1))(h3:R.pz b<=q)(h4:q<R.pz (b+1)):a=b:=by
 have:R.pz a<R.pz (b+1):=by grind
 have:=R.xZ.1 this;have:R.pz b<R.pz (a+1):=by grind
 have:=R.xZ.1 this;omega
theorem aYT{p q:Int×Int}(hp:p.1≠0)(h:R.qz p=R.qz q):bA p=bA q:=by
 have hq:q.1≠0:=Jy (by rw[<-h];exact aWZ hp);obtain⟨a,b⟩:=pZ hp;obtain⟨c,d⟩:=pZ hq;rw[h]at a b;exact aLU a b c d
structure bDJ(z e:Int):Prop where
 z0:z≠0
 z1:z.natAbs<9007199254740992
 e0:-1074<=e
 e1:e<=971
theorem aHO(z:Int):R.ab (z:Rat)=(z.natAbs:Rat):=by
 unfold R.ab
 by_cases hz:0<=z
 ·rw[if_pos (by exact_mod_cast hz),<-cNB];congr 1;omega
 ·rw[if_neg (by intro hc;exact hz (by exact_mod_cast hc)),<-cNB,<-cOO];congr 1;omega
theorem aFB(p:Int×Int):uV.aSG p=decide (R.ab (R.qz p)<=3/4):=by
 unfold uV.aSG;have e:R.qz (3,-2)=3/4:=by
  unfold R.qz;dsimp only;rw[show(-2:Int)=-((2:Nat):Int) by rfl,R.yY];have h3:R.hf 2=1/4:=by simp[R.hf];grind
  have:((3:Int):Rat)=3:=by norm_cast
  rw[h3,this];grind
 by_cases h:R.ab (R.qz p)<=3/4
 ·rw[decide_eq_true h];refine decide_eq_true (mD.2 ?_);rw[Em,e];exact h
 ·rw[decide_eq_false h];refine decide_eq_false fun hc=>h ?_
  have:=mD.1 hc;rwa [Em,e]at this
structure aEE(x:Int×Int):Prop where
 xD:kQ x
 ne:x.1≠0
 bl:bl x.1.natAbs<=53
 t0:-1074<=bA x
 t1:bA x<=1023
 e0:-1074<=x.2
 e1:x.2<=1023
 fit:R.Fit (R.qz x)
 bLD:¬R.ab (R.qz x)<=3/4->-53<=x.2/\R.bJF (R.qz x)
theorem bIO{z e:Int}(h:bDJ z e):aEE (aQ z e):=by
 obtain⟨z0,z1,e0,e1⟩:=h;have bz:bl z.natAbs<=53:=dP.2 (by have:(2:Nat)^53=9007199254740992:=rfl;omega);have b0:=qZ (n:=z.natAbs) (by omega);have q:=pD z e;have q':R.qz (aQ z e)=R.qz (z,e):=q;have ne:(aQ z e).1≠0:=fun hz=>z0 (eF.1 hz)
 have tt:=aYT ne q';have t':bA (z,e)=e+(bl z.natAbs:Nat)-1:=rfl;have ge:=tD (e:=e) z0;have bb:=xE z e;have b1:=qZ (n:=(aQ z e).1.natAbs) (by omega);have te:bA (aQ z e)=(aQ z e).2+(bl (aQ z e).1.natAbs:Nat)-1:=rfl;have xD:kQ (aQ z e):=iF (iL (by omega) (by omega)) (by omega);have num:¬R.ab (R.qz (aQ z e))<=3/4->-53<=e/\R.bJF (R.qz (aQ z e)):=by
  intro hb;have he:-53<=e:=by
   refine Int.not_lt.1 fun hn=>hb ?_
   have h2:=(pZ (p:=(z,e)) z0).2;have:R.pz (bA (z,e)+1)<=R.pz (-1):=R.cY (by omega);have p1:R.pz (-1)*2=1:=by
    have:=R.oJ 0;rw[R.fM]at this;exact this
   rw[q'];grind
  refine⟨he,(z.natAbs:Int),e,by omega,by omega,he,e1,?_⟩;rw[q',cNB,<-aHO];show(z:Rat)*R.pz e=_\/(z:Rat)*R.pz e=_;unfold R.ab;split
  ·left;rfl
  ·right;grind
 refine⟨xD,ne,by omega,by omega,by omega,by omega,by omega,?_,fun hb=>⟨by have:=(num hb).1;omega,(num hb).2⟩⟩
 by_cases c:R.ab (R.qz (aQ z e))<=3/4
 ·exact Or.inr c
 ·exact Or.inl (num c).2
theorem aTJ{G q K f M P W p:Rat}(hG:G=W*(256*P))(P1:1<=P)(W1:1<=W)(aq:R.ab q<=P)(f0:0<=f)(f1:f<=G*p)(f2:G*p<f+1)(p1:314159/100000<p)(p2:p<314160/100000)
  (n1:-f<=2*(2*(G*q)-K*f)) (n2:2*(2*(G*q)-K*f)<=f) (m1:M*(512*P)<=2*(G*q)-K*f-(R.ab K+3)) (m2:2*(G*q)-K*f-(R.ab K+3)<(M+1)*(512*P)) :
  M<=W*(q-K*(p/2))/\W*(q-K*(p/2))<=M+2/\W*R.ab (q-K*(p/2))<=W*(p/4)+1:=by
 have WP:=R.aG (show 0<=W-1 by grind) (show 0<=P-1 by grind);have G1:256<=G:=by rw[hG];grind
 have Gp:=R.aG (show 0<=G by grind) (show 0<=p-314159/100000 by grind);have Gp2:=R.aG (show 0<=G by grind) (show 0<=314160/100000-p by grind);have f3:3*G<=f:=by grind
 have f4:f<=4*G:=by grind
 have k0:=R.aO K;have eX:R.ab (2*(G*q))=2*(G*R.ab q):=by
  rw[R.fX,R.fX,R.bS (show(0:Rat)<=2 by grind),R.bS (show 0<=G by grind)]
 have eK:R.ab (K*f)=R.ab K*f:=by rw[R.fX,R.bS f0]
 have aKf:R.ab K*f<=2*(G*R.ab q)+f/2:=by
  rw[<-eK,<-eX];have a1:=R.Dz (2*(G*q));have a2:=R.oV (2*(G*q));rw[R.cK];constructor <;> grind
 have g1:=R.aG (show 0<=G by grind) (show 0<=P-R.ab q by grind);have g2:=R.aG k0 (show 0<=f-3*G by grind);have aK:3*R.ab K<=2*P+2:=by
  refine R.cO (q:=G) (by grind) ?_;grind
 have kd:R.ab (K*(G*p-f))<=R.ab K:=by
  rw[R.fX,R.bS (show 0<=G*p-f by grind)];have:=R.aG k0 (show 0<=1-(G*p-f) by grind);grind
 rw[R.cK]at kd;have e2:2*(G*q)-K*f-K*(G*p-f)=512*P*(W*(q-K*(p/2))):=by rw[hG];grind
 have P0:0<512*P:=by grind
 refine⟨?_,?_,?_⟩
 ·refine R.cO P0 ?_;rw[<-e2];generalize K*(G*p-f)=Z at *;grind
 ·refine R.cO P0 ?_;rw[<-e2];generalize K*(G*p-f)=Z at *;grind
 ·refine R.cO P0 ?_;have e3:512*P*(W*R.ab (q-K*(p/2)))=R.ab (512*P*(W*(q-K*(p/2)))):=by
   rw[R.fX (512*P),R.fX W,R.bS (cGW P0),R.bS (show 0<=W by grind)]
  rw[e3,<-e2,R.cK];have e4:512*P*(W*(p/4)+1)=G*p/2+512*P:=by rw[hG];grind
  rw[e4];generalize K*(G*p-f)=Z at *;constructor <;> grind
structure bCT(x:Int×Int)(w k:Int):Prop where
 aCD:R.sA (R.qz x) k
 q:aZ.cQ x w=k%4
 pl:kQ (aZ.aBE x w)
 ph:kQ (aZ.aBF x w)
 lo:R.qz (aZ.aBE x w)<=R.qz x-(k:Rat)*(R.pi/2)
 hi:R.qz x-(k:Rat)*(R.pi/2)<=R.qz (aZ.aBF x w)
 wd:R.qz (aZ.aBF x w)-R.qz (aZ.aBE x w)<=R.pz (57-w)*R.ab (R.qz x-(k:Rat)*(R.pi/2))
 rg:R.pz (-1074)<=R.ab (R.qz x-(k:Rat)*(R.pi/2))
theorem Lg{x:Int×Int}{w:Int}(hx:aEE x)(hw:64<=w/\w<=66590):∃k,bCT x w k:=by
 obtain⟨q1,q2⟩:=R.iH
 by_cases c:R.ab (R.qz x)<=3/4
 ·have sm:uV.aSG x=true:=by rw[aFB,decide_eq_true c]
  have k0:((0:Int):Rat)=0:=by norm_cast
  have dL:aZ.aBE x w=x:=by unfold aZ.aBE;rw[sm];rfl
  have dH:aZ.aBF x w=x:=by unfold aZ.aBF;rw[sm];rfl
  have er:R.qz x-((0:Int):Rat)*(R.pi/2)=R.qz x:=by rw[k0];grind
  refine⟨0,?_,by unfold aZ.cQ;rw[sm];rfl,by rw[dL];exact hx.xD,by rw[dH];exact hx.xD,by rw[dL,er];exact cID,by rw[dH,er];exact cID,?_,?_⟩
  ·unfold R.sA;rw[er];grind
  ·rw[dL,dH,er];have:=R.aG (cGW (R.dU (57-w))) (R.aO (R.qz x));grind
  ·rw[er];have:=(pZ hx.ne).1;have:=R.cY hx.t0;grind
 ·have sm:uV.aSG x=false:=by rw[aFB,decide_eq_false c]
  obtain⟨e53,num⟩:=hx.bLD c;have hb:=hx.bl;have aGM:=hx.e1;obtain⟨sM,sK⟩:=cE.aFN (p:=x) (w:=aZ.cW w) (by omega) (by omega) (by omega) (by unfold aZ.cW;split <;> omega) (by unfold aZ.cW;split <;> omega);have eW:aZ.cW w=w+8:=by unfold aZ.cW;split <;> omega
  have hM:aZ.cM x w=cE.rM x (w+8):=by
   unfold aZ.cM;rw[eW,show w+8-(w+8)=0 by omega];show cE.rM x (w+8)/((2^(0:Int).toNat:Nat):Int)=_;rw[show(2^(0:Int).toNat:Nat)=1 by rfl];omega
  have hQ:aZ.cQ x w=cE.rK x (w+8)%4:=by unfold aZ.cQ;rw[sm,eW];rfl
  have dL:aZ.aBE x w=aQ (cE.rM x (w+8)) (-(w+8)):=by unfold aZ.aBE;rw[sm,hM];rfl
  have dH:aZ.aBF x w=aQ (cE.rM x (w+8)+4) (-(w+8)):=by unfold aZ.aBF;rw[sm,hM];rfl
  rw[eW]at sM sK;have hT:cE.qR x=if 0>bA x+1 then 0 else bA x+1:=by
   unfold cE.qR bA;rw[show x.2+((M.bl x.1.natAbs:Nat):Int)-1+1=x.2+((M.bl x.1.natAbs:Nat):Int) by omega]
  have t1:=hx.t1;have T0:0<=cE.qR x/\bA x+1<=cE.qR x/\cE.qR x<=1024:=by rw[hT];split <;> omega
  have hG:cE.rG x (w+8)=w+8+cE.qR x+8:=rfl;obtain⟨g,hg⟩:=cGR (show 0<=cE.rG x (w+8) by omega);have hX:(cE.rX x (w+8):Rat)=2*(R.pz (cE.rG x (w+8))*R.qz x):=by
   unfold cE.rX uW.aPI;rw[aR];obtain⟨n,hn⟩:=cGR (show 0<=x.2+cE.rG x (w+8) by omega);rw[hn,cFM,cNA,cNA,cNB];have e1:((2^n:Nat):Rat)=R.pz x.2*R.pz (cE.rG x (w+8)):=by rw[<-R.jQ,hn,R.mI]
   rw[e1];unfold R.qz;have:((2:Int):Rat)=2:=by norm_cast
   rw[this];grind
  obtain⟨f1,f2⟩:=R.Bc (q:=(cE.rG x (w+8)).toNat) (by omega);have f0:=(cE.Ug (g:=(cE.rG x (w+8)).toNat) (by omega)).2;have hF:R.pF (cE.rG x (w+8)).toNat=cE.rF x (w+8):=rfl;rw[hF]at f0 f1 f2;have eG:((2^(cE.rG x (w+8)).toNat:Nat):Rat)=R.pz (cE.rG x (w+8)):=by rw[hg,cFM,R.mI]
  rw[eG]at f1 f2;obtain⟨n1,n2⟩:=aUF (X:=cE.rX x (w+8)) (f:=cE.rF x (w+8)) (by omega);have hK:cE.nK (cE.rX x (w+8)) (cE.rF x (w+8))=cE.rK x (w+8):=rfl;rw[hK]at n1 n2;have hR:(cE.rR x (w+8):Rat)=(cE.rX x (w+8):Rat)-(cE.rK x (w+8):Rat)*(cE.rF x (w+8):Rat):=by
   unfold cE.rR;rw[cPV,cNA,cNB]
  have hO:(cE.rO x (w+8):Rat)=R.ab (cE.rK x (w+8):Rat)+3:=by
   unfold cE.rO;rw[cOP,cNB,aHO];have:((3:Int):Rat)=3:=by norm_cast
   rw[this]
  have hS:cE.rG x (w+8)-(w+8)+1=cE.qR x+9:=by omega
  have bPI:cE.rM x (w+8)=(cE.rR x (w+8)-cE.rO x (w+8))/((2^(cE.qR x+9).toNat:Nat):Int):=by
   show(cE.rR x (w+8)-cE.rO x (w+8))/((2^(cE.rG x (w+8)-(w+8)+1).toNat:Nat):Int)=_;rw[hS]
  obtain⟨m1,m2⟩:=Ox (z:=cE.rR x (w+8)-cE.rO x (w+8)) (k:=(cE.qR x+9).toNat);rw[<-bPI,cPV]at m1 m2;obtain⟨s,hs⟩:=cGR (show 0<=cE.qR x+9 by omega);have eS:((2^(cE.qR x+9).toNat:Nat):Rat)=512*R.pz (cE.qR x):=by
   rw[hs,cFM,<-R.mI,<-hs];have:=R.eN (cE.qR x) 9;have n9:((2^9:Nat):Rat)=512:=by norm_cast
   rw[n9]at this;rw[show cE.qR x+9=cE.qR x+((9:Nat):Int) by rfl,this];grind
  rw[eS]at m1 m2;have cAV:R.pz (cE.rG x (w+8))=R.pz (w+8)*(256*R.pz (cE.qR x)):=by
   rw[hG,R.jQ,R.jQ];have:R.pz 8=256:=by rw[show(8:Int)=((8:Nat):Int) by rfl,R.mI];norm_cast
   rw[this];grind
  have P1:1<=R.pz (cE.qR x):=by rw[<-R.fM];exact R.cY (by omega)
  have aq:R.ab (R.qz x)<=R.pz (cE.qR x):=by
   have:=(pZ hx.ne).2;have:=R.cY T0.2.1;grind
  have W80:(4722366482869645213696:Rat)<=R.pz (w+8):=by
   have:=R.cY (show(72:Int)<=w+8 by omega);have e:R.pz 72=4722366482869645213696:=by rw[show(72:Int)=((72:Nat):Int) by rfl,R.mI];norm_cast
   rw[e]at this;grind
  rw[hR,hO,hX]at m1 m2;rw[hX]at n1 n2;have F0:(0:Rat)<=(cE.rF x (w+8):Rat):=by exact_mod_cast cHS _
  obtain⟨r1,r2,r3⟩:=aTJ cAV P1 (by grind) aq F0 f1 f2 q1 q2 n1 n2 m1 m2;have Wi:=R.Ue (w+8);have Wp:=R.dU (-(w+8));have v:=R.aZD num (cE.rK x (w+8));have i1:iN (cE.rM x (w+8)) (-(w+8))=true:=iL (by omega) (by omega);have s4:M.bl (cE.rM x (w+8)+4).natAbs<=80010:=by
   have:=aZ.aHL sM (by decide);omega
  have i2:iN (cE.rM x (w+8)+4) (-(w+8))=true:=iL (by omega) (by omega);have vL:R.qz (aZ.aBE x w)=(cE.rM x (w+8):Rat)*R.pz (-(w+8)):=by rw[dL,pD]
  have vH:R.qz (aZ.aBF x w)=(cE.rM x (w+8):Rat)*R.pz (-(w+8))+4*R.pz (-(w+8)):=by
   rw[dH,pD,cOP];have:((4:Int):Rat)=4:=by norm_cast
   rw[this];grind
  have p63:R.pz (57-w)*(1/9223372036854775808)=4*R.pz (-(w+8)):=by
   have:=R.fU (57-w) (n:=65) (c:=36893488147419103232) (by norm_cast);rw[show 57-w-((65:Nat):Int)=-(w+8) by omega]at this;grind
  have mm:=R.aG (cGW (R.dU (57-w))) (show 0<=R.ab (R.qz x-(cE.rK x (w+8):Rat)*(R.pi/2))-1/9223372036854775808 by grind);have bFJ:R.sA (R.qz x) (cE.rK x (w+8)):=by
   unfold R.sA;generalize R.ab (R.qz x-(cE.rK x (w+8):Rat)*(R.pi/2))=a at *;have u:=R.aG (cGW Wp) (show 0<=R.pz (w+8)*(R.pi/4)+1-R.pz (w+8)*a by grind);have u3:R.pz (-(w+8))*(R.pz (w+8)*a)=a:=by rw[<-cMZ,cOL (R.pz (-(w+8))),Wi];grind
   have u4:R.pz (-(w+8))*(R.pz (w+8)*(R.pi/4))=R.pi/4:=by rw[<-cMZ,cOL (R.pz (-(w+8))),Wi];grind
   have l65:R.pz (-(w+8))<=R.pz (-65):=R.cY (by omega);have cAX:=R.fU 0 (n:=65) (c:=36893488147419103232) (by norm_cast);rw[R.fM,show(0:Int)-((65:Nat):Int)=-65 by rfl]at cAX;grind
  obtain⟨r,hr⟩:∃r,r=R.qz x-(cE.rK x (w+8):Rat)*(R.pi/2):=⟨_,rfl⟩;rw[<-hr]at r1 r2 r3 v mm;have u1:=R.aG (cGW Wp) (show 0<=R.pz (w+8)*r-(cE.rM x (w+8):Rat) by grind);have u2:=R.aG (cGW Wp) (show 0<=(cE.rM x (w+8):Rat)+2-R.pz (w+8)*r by grind);have u3:R.pz (-(w+8))*(R.pz (w+8)*r)=r:=by rw[<-cMZ,cOL (R.pz (-(w+8))),Wi];grind
  refine⟨cE.rK x (w+8),?_,hQ,by rw[dL];exact iF i1 (by omega),by rw[dH];exact iF i2 (by omega),?_,?_,?_,?_⟩
  ·exact bFJ
  ·rw[vL,<-hr];grind
  ·rw[vH,<-hr];grind
  ·rw[vH,vL,<-hr];grind
  ·rw[<-hr];have p64:R.pz (-1074)<=R.pz (-63):=R.cY (by omega);have bQD:=R.fU 0 (n:=63) (c:=9223372036854775808) (by norm_cast);rw[R.fM,show(0:Int)-((63:Nat):Int)=-63 by rfl]at bQD;grind
end M
namespace AI
open Go Go.RowKit
def t2{β:Type}(x y:β):Nat->β
 |0=>x
 |_+1=>y
def t4{β:Type}(x y z u:β):Nat->β
 |0=>x
 |1=>y
 |2=>z
 |_+3=>u
def bRE{β:Type}(p:SPar β)(d:β):mF (β) where
 put x:=.rows p.n 1 fun _=>p.put x
 get
  | .rows sz n g=>if n=1/\sz=p.n then(p.get (g 0)).bind fun x=>some x else none
  |_=>none
 le:=by
  intro dd x h
  match dd,h with
  | .rows sz n g,h =>
   dsimp only at h;split at h
   ·rename_i hc;obtain⟨rfl,hc⟩:=hc;simp only[cDW]at h;obtain⟨y0,h0,h⟩:=h;cases h;have Br:allB 1 (fun i=>(p.get (g i)).isSome)=true:=by simp[allB,h0]
    have e:=(pR p d).le (d:=.rows sz 1 g) (x:=(1,fun i=>(p.get (g i)).getD d)) (if_pos ⟨hc,Br⟩);rintro Y w v hv;obtain⟨A,c,e1,e2,e3⟩:=e Y w v hv;refine⟨A,c,e1,e2,fun i hi=>?_⟩;have e4:=e3 i hi;obtain rfl:i=0:=by omega
    dsimp only at e4;rw[h0]at e4;exact e4
   ·cases h
def bJQ{β:Type}(p:SPar β)(d:β):mF (β×β) where
 put x:=.rows p.n 2 fun i=>p.put (t2 x.1 x.2 i)
 get
  | .rows sz n g=>if n=2/\sz=p.n then(p.get (g 0)).bind fun x=>(p.get (g 1)).bind fun y=>some (x,y)else none
  |_=>none
 le:=by
  intro dd x h
  match dd,h with
  | .rows sz n g,h =>
   dsimp only at h;split at h
   ·rename_i hc;obtain⟨rfl,hc⟩:=hc;simp only[cDW]at h;obtain⟨y0,h0,y1,h1,h⟩:=h;cases h;have Br:allB 2 (fun i=>(p.get (g i)).isSome)=true:=by simp[allB,h0,h1]
    have e:=(pR p d).le (d:=.rows sz 2 g) (x:=(2,fun i=>(p.get (g i)).getD d)) (if_pos ⟨hc,Br⟩);rintro Y w v hv;obtain⟨A,c,e1,e2,e3⟩:=e Y w v hv;refine⟨A,c,e1,e2,fun i hi=>?_⟩;have e4:=e3 i hi;obtain rfl |rfl:i=0\/i=1:=by omega
    ·dsimp only at e4;rw[h0]at e4;exact e4
    ·dsimp only at e4;rw[h1]at e4;exact e4
   ·cases h
def aXE{β:Type}(p:SPar β)(d:β):mF (β×β×β×β) where
 put x:=.rows p.n 4 fun i=>p.put (t4 x.1 x.2.1 x.2.2.1 x.2.2.2 i)
 get
  | .rows sz n g=>if n=4/\sz=p.n then(p.get (g 0)).bind fun x=>(p.get (g 1)).bind fun y=>(p.get (g 2)).bind fun z=>(p.get (g 3)).bind fun u=>some (x,y,z,u)else none
  |_=>none
 le:=by
  intro dd x h
  match dd,h with
  | .rows sz n g,h =>
   dsimp only at h;split at h
   ·rename_i hc;obtain⟨rfl,hc⟩:=hc;simp only[cDW]at h;obtain⟨y0,h0,y1,h1,y2,h2,y3,h3,h⟩:=h;cases h;have Br:allB 4 (fun i=>(p.get (g i)).isSome)=true:=by simp[allB,h0,h1,h2,h3]
    have e:=(pR p d).le (d:=.rows sz 4 g) (x:=(4,fun i=>(p.get (g i)).getD d)) (if_pos ⟨hc,Br⟩);rintro Y w v hv;obtain⟨A,c,e1,e2,e3⟩:=e Y w v hv;refine⟨A,c,e1,e2,fun i hi=>?_⟩;have e4:=e3 i hi;obtain rfl |rfl |rfl |rfl:i=0\/i=1\/i=2\/i=3:=by omega
    ·dsimp only at e4;rw[h0]at e4;exact e4
    ·dsimp only at e4;rw[h1]at e4;exact e4
    ·dsimp only at e4;rw[h2]at e4;exact e4
    ·dsimp only at e4;rw[h3]at e4;exact e4
   ·cases h
end AI
namespace W
open Go AI M
namespace Cc
def E:=mE [] 9 [] [] []
def aE:=bd f161
theorem aT:Nk E aE:=nk
theorem start a:aF E f161 aE [D.s (sc (int i64 a))]=aB (decide (1<=a)) (some [D.s (sc (bool (decide (a<=70000))))]) (some [D.s (sc (bool false))]):=eJ aT
def sp(p:Int):Prop×List D:=(True,[.s (.sc (.bool (decide (1<=p)&&decide (p<=70000))))])
theorem spec:iS E f161 aE (pN .i64) sp:=by
 intro p h;refine(start p).trans ?_;unfold sp aB;cases (decide ((1:Int)<=p)) <;> rfl
def aJ:dJ:=orc1 (pN .i64) sp
theorem ok:OK 161 aJ:=(dY E aE aC func161).oU rfl spec
end Cc
namespace zW
def E:=mE [(161,Cc.aJ),(67,wV.aJ)] 20 [] [(4,[10,11,12])] []
def aE:=bd f117
theorem aT:Nk E aE:=nk
def L4(a:Nat)(b:Nat->Bool)(c:Nat->List Int)(d:Nat->Int)(e:Nat->Bool)(f:Nat->List Int)(g:Nat->Int) h j:=qA E f117 aE 4 [(A.v (V.one (L.rows 6 a fun i=>[sc (bool (b i)),ints u64 (c i),sc (int i64 (d i)),sc (bool (e i)),ints u64 (f i),sc (int i64 (g i))])),none),bP h,bP j]
theorem start p (a:yM) (b:yM):aF E f117 aE [D.s (sc (int i64 p)),D.rows 6 2 fun i=>[sc (bool (t2 a b i).fst),ints u64 (t2 a b i).snd.fst,sc (int i64 (t2 a b i).snd.snd.fst),sc (bool (t2 a b i).snd.snd.snd.fst),ints u64 (t2 a b i).snd.snd.snd.snd.fst,sc (int i64 (t2 a b i).snd.snd.snd.snd.snd)]]=aN True (aB (!(decide (1<=p)&&decide (p<=70000))) (some [D.s (sc (int i64 1))]) (zW.L4 2 (fun i=>(t2 a b i).fst) (fun i=>(t2 a b i).snd.fst) (fun i=>(t2 a b i).snd.snd.fst) (fun i=>(t2 a b i).snd.snd.snd.fst) (fun i=>(t2 a b i).snd.snd.snd.snd.fst) (fun i=>(t2 a b i).snd.snd.snd.snd.snd) 2 0)):=eJ aT
theorem nR a b c d e f g h j:L4 a b c d e f g h j=aB (decide (j<h)) (if 0<=j/\j<(a:Int)then aN (fD (b j.toNat,c j.toNat,d j.toNat,e j.toNat,f j.toNat,g j.toNat)) (zW.L4 a (fun i=>b i) (fun i=>c i) (fun i=>d i) (fun i=>e i) (fun i=>f i) (fun i=>g i) h (i64.wrap (j+1)))else none) (some [D.s (sc (int i64 0))]):=lJ aT
def sp(p:Int)(a:yM×yM):Prop×List D:=(fD a.1/\fD a.2,[.s (.sc (.int .i64 (if 1<=p/\p<=70000 then 0 else 1)))])
theorem L(n:Nat)(f:Nat->yM)(hn:n<=1000)(hf:∀i,i<n->fD (f i)):∀d k:Nat,k+d=n->L4 n (fun i=>(f i).1) (fun i=>(f i).2.1) (fun i=>(f i).2.2.1) (fun i=>(f i).2.2.2.1) (fun i=>(f i).2.2.2.2.1) (fun i=>(f i).2.2.2.2.2) (n:Int) (k:Int)=some [D.s (.sc (.int .i64 0))]
 |0,k,h=>by rw[nR,aL]
 |d+1,k,h=>by
  have e:i64.wrap ((k:Int)+1)=((k+1:Nat):Int):=by rw[wrap_i64];omega
  rw[nR,aM,aR,cFM,gP (hf k (by omega)),e];exact L n f hn hf d (k+1) (by omega)
theorem spec:fN E f117 aE (pN .i64) (bJQ (.pair sB (.pair (sI .u64) (.pair (sN .i64) (.pair sB (.pair (sI .u64) (sN .i64)))))) (false,[],0,false,[],0)) sp:=by
 intro p a h;have hf:∀i,i<2->fD (t2 a.1 a.2 i):=fun i hi=>by
  obtain rfl |rfl:i=0\/i=1:=by omega
  ·exact h.1
  ·exact h.2
 refine(start p a.1 a.2).trans ((gP trivial).trans ?_);unfold sp
 by_cases hp:1<=p/\p<=70000
 ·rw[if_pos hp,decide_eq_true hp.1,decide_eq_true hp.2];exact L 2 (fun i=>t2 a.1 a.2 i) (by decide) hf 2 0 (by omega)
 ·rw[if_neg hp];have:(decide (1<=p)&&decide (p<=70000))=false:=by
   rw[cNJ,decide_eq_false_iff_not,decide_eq_false_iff_not];omega
  rw[this];rfl
def aJ:dJ:=orc2 (pN .i64) (bJQ (.pair sB (.pair (sI .u64) (.pair (sN .i64) (.pair sB (.pair (sI .u64) (sN .i64)))))) (false,[],0,false,[],0)) sp
theorem ok:OK 117 aJ:=(dY E aE (aA Cc.ok (aA wV.ok aC)) func117).lD rfl spec
end zW
namespace Pp
def E:=mE [(120,Jj.aJ)] 6 [5] [] []
def aE:=bd f165
theorem aT:Nk E aE:=nk
theorem start a b c:aF E f165 aE [D.agg [sc (bool a),ints u64 b,sc (int i64 c)]]=aN (aU (a,b,c)/\aU (false,[],(0:Int))) (some [D.s (sc (int i64 (eZ (dv (a,b,c)) (dv (false,[],Int.ofNat (nat_lit 0))))))]):=eJ aT
def sp(x:gW):Prop×List D:=(aU x,[.s (.sc (.int .i64 (eZ (dv x) (0,0))))])
theorem bLX:aU (false,[],0):=⟨⟨M6.Lm,fun h=>Bool.noConfusion h,by simp⟩,by constructor <;> decide,fun _=>rfl,fun h=>(h rfl).elim⟩
theorem spec:iS E f165 aE kA sp:=by
 intro x h;exact(start x.1 x.2.1 x.2.2).trans (gP ⟨h,bLX⟩)
def aJ:dJ:=orc1 kA sp
theorem ok:OK 165 aJ:=(dY E aE (aA Jj.ok aC) func165).oU rfl spec
end Pp
namespace fZ
def E:=mE [(67,wV.aJ),(165,Pp.aJ)] 18 [] [] []
def aE:=bd f159
theorem aT:Nk E aE:=nk
theorem start a b c d e f:aF E f159 aE [D.agg [sc (bool a),ints u64 b,sc (int i64 c),sc (bool d),ints u64 e,sc (int i64 f)]]=letI A:=sc (int i64 0);aN (fD (a,b,c,d,e,f)) (aN (aU (d,e,f)) (aB (decide (eZ (dv (d,e,f)) ((0:Int),(0:Int))<0)) (some [D.s (sc (int i64 (-1:Int))),D.s A]) (aN (aU (a,b,c)) (aB (decide (0<eZ (dv (a,b,c)) ((0:Int),(0:Int)))) (some [D.s (sc (int i64 1)),D.s A]) (some [D.s A,D.s A]))))):=eJ aT
def uI(a b:Int×Int):Int:=if eZ b (0,0)<0 then -1 else if 0<eZ a (0,0)then 1 else 0
def sp(s:yM):Prop×List D:=(fD s,[.s (.sc (.int .i64 (uI (dv (iO s)) (dv (iP s))))),.s (.sc (.int .i64 0))])
theorem spec:iS E f159 aE Ae sp:=by
 intro s h;have h:fD s:=h;have hL:aU (s.1,s.2.1,s.2.2.1):=h.1;have hH:aU (s.2.2.2.1,s.2.2.2.2.1,s.2.2.2.2.2):=h.2.1;refine(start s.1 s.2.1 s.2.2.1 s.2.2.2.1 s.2.2.2.2.1 s.2.2.2.2.2).trans ?_;unfold sp uI
 try dsimp only
 rw[gP h,gP hH];show aB (decide (eZ (dv (iP s)) (0,0)<0)) _ _=_
 by_cases c1:eZ (dv (iP s)) (0,0)<0
 ·rw[aM c1,if_pos c1]
 ·rw[aL c1,if_neg c1,gP hL];show aB (decide (0<eZ (dv (iO s)) (0,0))) _ _=_
  by_cases c2:0<eZ (dv (iO s)) (0,0)
  ·rw[aM c2,if_pos c2]
  ·rw[aL c2,if_neg c2]
def aJ:dJ:=orc1 Ae sp
theorem ok:OK 159 aJ:=(dY E aE (aA wV.ok (aA Pp.ok aC)) func159).oU rfl spec
end fZ
namespace Qa
def E:=mE [(210,cU.aJ)] 14 [11] [] []
def aE:=bd f166
theorem aT:Nk E aE:=nk
theorem start a b d e f g c:aF E f166 aE [D.agg [sc (bool a),ints u64 b,sc (int i64 d)],D.agg [sc (bool e),ints u64 f,sc (int i64 g)],D.s (sc (int i64 c))]=letI A:=cU.wL false c (dv (a,b,d)) (dv (e,f,g));letI B:=bif iN A.fst A.snd then aQ A.fst A.snd else((0:Int),(0:Int));aN (aU (a,b,d)/\aU (e,f,g)/\(dv (e,f,g)).fst≠0/\b.length<=4096/\f.length<=4096/\1<=c/\c<=70000) (some [D.agg [sc (bool (isNeg B.fst)),ints u64 (M6.dg B.fst.natAbs),sc (int i64 B.snd)],D.s (sc (int i64 (bif iN A.fst A.snd then(0:Int)else(5:Int))))]):=eJ aT
def sp(x y:gW)(p:Int):Prop×List D:=(aU x/\aU y/\(dv y).1≠0/\x.2.1.length<=4096/\y.2.1.length<=4096/\1<=p/\p<=70000,dE (iN (cU.wL false p (dv x) (dv y)).1 (cU.wL false p (dv x) (dv y)).2) (aQ (cU.wL false p (dv x) (dv y)).1 (cU.wL false p (dv x) (dv y)).2))
theorem spec:oG E f166 aE kA kA (pN .i64) sp:=by
 intro x y p h;refine(start x.1 x.2.1 x.2.2 y.1 y.2.1 y.2.2 p).trans ((gP h).trans ?_);rfl
def aJ:dJ:=orc3 kA kA (pN .i64) sp
theorem ok:OK 166 aJ:=(dY E aE (aA cU.ok aC) func166).xN rfl spec
end Qa
namespace aEF
def E:=mE [(210,cU.aJ)] 14 [11] [] []
def aE:=bd f167
theorem aT:Nk E aE:=nk
theorem start a b d e f g c:aF E f167 aE [D.agg [sc (bool a),ints u64 b,sc (int i64 d)],D.agg [sc (bool e),ints u64 f,sc (int i64 g)],D.s (sc (int i64 c))]=letI A:=cU.wL true c (dv (a,b,d)) (dv (e,f,g));letI B:=bif iN A.fst A.snd then aQ A.fst A.snd else((0:Int),(0:Int));aN (aU (a,b,d)/\aU (e,f,g)/\(dv (e,f,g)).fst≠0/\b.length<=4096/\f.length<=4096/\1<=c/\c<=70000) (some [D.agg [sc (bool (isNeg B.fst)),ints u64 (M6.dg B.fst.natAbs),sc (int i64 B.snd)],D.s (sc (int i64 (bif iN A.fst A.snd then(0:Int)else(5:Int))))]):=eJ aT
def sp(x y:gW)(p:Int):Prop×List D:=(aU x/\aU y/\(dv y).1≠0/\x.2.1.length<=4096/\y.2.1.length<=4096/\1<=p/\p<=70000,dE (iN (cU.wL true p (dv x) (dv y)).1 (cU.wL true p (dv x) (dv y)).2) (aQ (cU.wL true p (dv x) (dv y)).1 (cU.wL true p (dv x) (dv y)).2))
theorem spec:oG E f167 aE kA kA (pN .i64) sp:=by
 intro x y p h;refine(start x.1 x.2.1 x.2.2 y.1 y.2.1 y.2.2 p).trans ((gP h).trans ?_);rfl
def aJ:dJ:=orc3 kA kA (pN .i64) sp
theorem ok:OK 167 aJ:=(dY E aE (aA cU.ok aC) func167).xN rfl spec
end aEF
namespace aAP
def E:=mE [] 23 [] [] []
def aE:=bd f164
theorem aT:Nk E aE:=nk
theorem start a c e b f g h d:aF E f164 aE [D.agg [sc (bool a),ints u64 c,sc (int i64 e)],D.s (sc (int i64 b)),D.agg [sc (bool f),ints u64 g,sc (int i64 h)],D.s (sc (int i64 d))]=letI B:=int i64 0;letI A:=some [D.agg [sc (bool false),sc (slice none 0 0),sc B,sc (bool false),sc (slice none 0 0),sc B],D.s (sc (int i64 (if d>b then d else b)))];aB (b !=0) A (aB (d !=0) A (some [D.agg [sc (bool a),ints u64 c,sc (int i64 e),sc (bool f),ints u64 g,sc (int i64 h)],D.s (sc B)])):=eJ aT
def sp(x:gW)(e:Int)(y:gW)(f:Int):Prop×List D:=(e=0/\f=0,[.agg [.sc (.bool x.1),.ints .u64 x.2.1,.sc (.int .i64 x.2.2),.sc (.bool y.1),.ints .u64 y.2.1,.sc (.int .i64 y.2.2)],.s (.sc (.int .i64 0))])
theorem spec:Rp E f164 aE kA (pN .i64) kA (pN .i64) sp:=by
 rintro x e y f ⟨rfl,rfl⟩;exact start x.1 x.2.1 x.2.2 0 y.1 y.2.1 y.2.2 0
def aJ:dJ:=orc4 kA (pN .i64) kA (pN .i64) sp
theorem ok:OK 164 aJ:=(dY E aE aC func164).aSJ rfl spec
end aAP
namespace jR
def E:=mE [(117,zW.aJ),(159,fZ.aJ),(20,lB.aJ),(165,Pp.aJ),(166,Qa.aJ),(167,aEF.aJ),(164,aAP.aJ)] 86 [21,83] [(11,[2,3,4,6]),(14,[2,3,4,6,11,12]),(16,[2,3,6,11,12])] [11,14,16]
def aE:=bd f119
theorem aT:Nk E aE:=nk
def aBJ a b c d e f g h i j k l m n o p q:=lK E f119 aE 11 [bP a,dR 1 44 [dG b,gM c,cF d,dG e,gM f,cF g],dR 2 44 [dG h,gM i,cF j,dG k,gM l,cF m],dR 3 44 [dG n,sc (slice none 0 0),cF o,dG p,sc (slice none 0 0),cF q]]
def aWM a b c d e f g h i j k l m n o p q r s t u v w:=lK E f119 aE 14 [bP a,dR 1 44 [dG b,gM c,cF d,dG e,gM f,cF g],dR 2 44 [dG h,gM i,cF j,dG k,gM l,cF m],dR 3 44 [dG n,sc (slice none 0 0),cF o,dG p,sc (slice none 0 0),cF q],dR 4 29 [dG r,gM s,cF t],dR 5 29 [dG u,gM v,cF w]]
def aEB a b c d e f g h i j k l m n o p q:=lK E f119 aE 16 [bP a,dR 1 44 [dG b,gM c,cF d,dG e,gM f,cF g],dR 2 44 [dG h,sc (slice none 0 0),cF i,dG j,sc (slice none 0 0),cF k],dR 3 29 [dG l,gM m,cF n],dR 4 29 [dG o,gM p,cF q]]
theorem start a b d e f g h i j k l m c:aF E f119 aE [D.agg [sc (bool a),ints u64 b,sc (int i64 d),sc (bool e),ints u64 f,sc (int i64 g)],D.agg [sc (bool h),ints u64 i,sc (int i64 j),sc (bool k),ints u64 l,sc (int i64 m)],D.s (sc (int i64 c))]=letI I:=int i64 0;letI F:=bool false;letI C:=slice none 0 0;letI B:=(a,b,d,e,f,g);letI N:=dv (iO B);letI K:=dv (iP B);letI A:=(h,i,j,k,l,m);letI H:=dv (iP A);letI G:=dv (iO A);aN (fD B/\fD A) (aD (if 1<=c/\c<=70000 then(0:Int)else(1:Int)) fun n=>aB (n !=0) (some [D.agg [sc F,sc C,sc I,sc F,sc C,sc I],D.s (sc (int i64 n))]) (aN (fD A) (aD (fZ.uI G H) fun o=>aB (o==0) (some [D.agg [sc F,sc C,sc I,sc F,sc C,sc I],D.s (sc (int i64 4))]) (aB (o==(-1:Int)) (aN (fD B) (aD (isNeg (-K.fst)) fun p=>aD (M6.dg (-K.fst).natAbs) fun q=>aD K.snd fun r=>aD (isNeg (-N.fst)) fun s=>aD (M6.dg (-N.fst).natAbs) fun t=>aD N.snd fun u=>aN (fD A) (aD (isNeg (-H.fst)) fun v=>aD (M6.dg (-H.fst).natAbs) fun w=>aD H.snd fun x=>aD (isNeg (-G.fst)) fun y=>aD (M6.dg (-G.fst).natAbs) fun z=>aD G.snd fun aa=>jR.aBJ c p q r s t u v w x y z aa false 0 false 0))) (jR.aBJ c a b d e f g h i j k l m false 0 false 0))))):=eJ aT
theorem Fi a b c d e f g h i j k l m n o p q:aBJ a b c d e f g h i j k l m n o p q=aN (aU (b,c,d)) (aD (eZ (dv (b,c,d)) ((0:Int),(0:Int))) fun r=>aB (decide (r<0)) (jR.aWM a b c d e f g h i j k l m n o p q h i j h i j) (jR.aWM a b c d e f g h i j k l m n o p q k l m h i j)):=cJ aT
theorem Wr a b c d e f g h i j k l m n o p q r s t u v w:aWM a b c d e f g h i j k l m n o p q r s t u v w=aN (aU (e,f,g)) (aD (eZ (dv (e,f,g)) ((0:Int),(0:Int))) fun x=>aB (decide (x<0)) (jR.aEB a b c d e f g n o p q r s t k l m) (jR.aEB a b c d e f g n o p q r s t u v w)):=cJ aT
theorem Cq a b c d e f g h i j k l m n o p q:aEB a b c d e f g h i j k l m n o p q=letI B:=cU.wL true a (dv (e,f,g)) (dv (o,p,q));letI F:=bif iN B.fst B.snd then aQ B.fst B.snd else((0:Int),(0:Int));letI A:=cU.wL false a (dv (b,c,d)) (dv (l,m,n));letI C:=bif iN A.fst A.snd then aQ A.fst A.snd else((0:Int),(0:Int));aN (aU (b,c,d)/\aU (l,m,n)/\(dv (l,m,n)).fst≠0/\c.length<=4096/\m.length<=4096/\1<=a/\a<=70000) (aD (isNeg C.fst) fun r=>aD (M6.dg C.fst.natAbs) fun s=>aD C.snd fun t=>aD (bif iN A.fst A.snd then(0:Int)else(5:Int)) fun u=>aN (aU (e,f,g)/\aU (o,p,q)/\(dv (o,p,q)).fst≠0/\f.length<=4096/\p.length<=4096/\1<=a/\a<=70000) (aD (isNeg F.fst) fun v=>aD (M6.dg F.fst.natAbs) fun w=>aD F.snd fun x=>aD (bif iN B.fst B.snd then(0:Int)else(5:Int)) fun y=>aN (u=0/\y=0) (some [D.agg [sc (bool r),ints u64 s,sc (int i64 t),sc (bool v),ints u64 w,sc (int i64 x)],D.s (sc (int i64 0))]))):=cJ aT
def aKJ(p:Int)(a u v:Int×Int):Int×Int:=cU.wL false p a (bif decide (eZ a (0,0)<0)then u else v)
def aKK(p:Int)(a u v:Int×Int):Int×Int:=cU.wL true p a (bif decide (eZ a (0,0)<0)then v else u)
def My(p:Int)(a b u v:Int×Int):Int×Int:=bif fZ.uI u v==-1 then aKJ p (lB.yB b) (lB.yB v) (lB.yB u)else aKJ p a u v
def Mz(p:Int)(a b u v:Int×Int):Int×Int:=bif fZ.uI u v==-1 then aKK p (lB.yB a) (lB.yB v) (lB.yB u)else aKK p b u v
def sp(s t:yM)(p:Int):Prop×List D:=(fD s/\fD t/\(1<=p/\p<=70000)/\fZ.uI (dv (iO t)) (dv (iP t))≠0 /\
 (bl (dv (iO s)).1.natAbs<=262144/\bl (dv (iP s)).1.natAbs<=262144/\bl (dv (iO t)).1.natAbs<=262144/\bl (dv (iP t)).1.natAbs<=262144) /\
 iN (My p (dv (iO s)) (dv (iP s)) (dv (iO t)) (dv (iP t))).1 (My p (dv (iO s)) (dv (iP s)) (dv (iO t)) (dv (iP t))).2=true/\iN (Mz p (dv (iO s)) (dv (iP s)) (dv (iO t)) (dv (iP t))).1 (Mz p (dv (iO s)) (dv (iP s)) (dv (iO t)) (dv (iP t))).2=true,
 [wY (aQ (My p (dv (iO s)) (dv (iP s)) (dv (iO t)) (dv (iP t))).1 (My p (dv (iO s)) (dv (iP s)) (dv (iO t)) (dv (iP t))).2) (aQ (Mz p (dv (iO s)) (dv (iP s)) (dv (iO t)) (dv (iP t))).1 (Mz p (dv (iO s)) (dv (iP s)) (dv (iO t)) (dv (iP t))).2),.s (.sc (.int .i64 0))])
theorem J{p:Int}(hp:1<=p/\p<=70000){x y u v:gW}(hx:aU x)(hy:aU y)(hu:aU u)(hv:aU v)(u0:(dv u).1≠0)(v0:(dv v).1≠0)(lx:x.2.1.length<=4096)(ly:y.2.1.length<=4096)(lu:u.2.1.length<=4096)(lv:v.2.1.length<=4096)
  (i1:iN (aKJ p (dv x) (dv u) (dv v)).1 (aKJ p (dv x) (dv u) (dv v)).2=true) (i2:iN (aKK p (dv y) (dv u) (dv v)).1 (aKK p (dv y) (dv u) (dv v)).2=true) :
  aBJ p x.1 x.2.1 x.2.2 y.1 y.2.1 y.2.2 u.1 u.2.1 u.2.2 v.1 v.2.1 v.2.2 false 0 false 0=some [wY (aQ (aKJ p (dv x) (dv u) (dv v)).1 (aKJ p (dv x) (dv u) (dv v)).2) (aQ (aKK p (dv y) (dv u) (dv v)).1 (aKK p (dv y) (dv u) (dv v)).2),.s (.sc (.int .i64 0))]:=by
 have fin:∀m n:gW,aU m->aU n->(dv m).1≠0->(dv n).1≠0->m.2.1.length<=4096->n.2.1.length<=4096->iN (cU.wL false p (dv x) (dv m)).1 (cU.wL false p (dv x) (dv m)).2=true->iN (cU.wL true p (dv y) (dv n)).1 (cU.wL true p (dv y) (dv n)).2=true ->
   aEB p x.1 x.2.1 x.2.2 y.1 y.2.1 y.2.2 false 0 false 0 m.1 m.2.1 m.2.2 n.1 n.2.1 n.2.2=some [wY (aQ (cU.wL false p (dv x) (dv m)).1 (cU.wL false p (dv x) (dv m)).2) (aQ (cU.wL true p (dv y) (dv n)).1 (cU.wL true p (dv y) (dv n)).2),.s (.sc (.int .i64 0))]:=by
  intro m n hm hn m0 n0 lm ln j1 j2;have x1:(x.1,x.2.1,x.2.2)=x:=rfl;have x2:(y.1,y.2.1,y.2.2)=y:=rfl;have x3:(m.1,m.2.1,m.2.2)=m:=rfl;have x4:(n.1,n.2.1,n.2.2)=n:=rfl;rw[Cq];simp only[aI,x1,x2,x3,x4,j1,j2,cond_true];rw[gP ⟨hx,hm,m0,lx,lm,hp.1,hp.2⟩,gP ⟨hy,hn,n0,ly,ln,hp.1,hp.2⟩,gP ⟨trivial,trivial⟩];rfl
 unfold aKJ aKK at *;rw[Fi,gP hx,aI]
 by_cases c1:eZ (dv x) (0,0)<0
 ·rw[show dv (x.1,x.2.1,x.2.2)=dv x from rfl,aM c1,Wr,gP hy,aI,show dv (y.1,y.2.1,y.2.2)=dv y from rfl];rw[decide_eq_true c1,cond_true]at i1 ⊢
  by_cases c2:eZ (dv y) (0,0)<0
  ·rw[aM c2];rw[decide_eq_true c2,cond_true]at i2 ⊢;exact fin u v hu hv u0 v0 lu lv i1 i2
  ·rw[aL c2];rw[decide_eq_false c2,cond_false]at i2 ⊢;exact fin u u hu hu u0 u0 lu lu i1 i2
 ·rw[show dv (x.1,x.2.1,x.2.2)=dv x from rfl,aL c1,Wr,gP hy,aI,show dv (y.1,y.2.1,y.2.2)=dv y from rfl];rw[decide_eq_false c1,cond_false]at i1 ⊢
  by_cases c2:eZ (dv y) (0,0)<0
  ·rw[aM c2];rw[decide_eq_true c2,cond_true]at i2 ⊢;exact fin v v hv hv v0 v0 lv lv i1 i2
  ·rw[aL c2];rw[decide_eq_false c2,cond_false]at i2 ⊢;exact fin v u hv hu v0 u0 lv lu i1 i2
theorem cell{q:Int×Int}(h:kQ q)(hb:bl q.1.natAbs<=262144):(isNeg q.1,M6.dg q.1.natAbs,q.2).2.1.length<=4096:=by
 have:=dW h;refine this.Bk ?_;rw[dZ];exact hb
theorem spec:oG E f119 aE Ae Ae (pN .i64) sp:=by
 rintro s t p ⟨h1,h2,hp,hs,⟨l1,l2,l3,l4⟩,i1,i2⟩;refine(start s.1 s.2.1 s.2.2.1 s.2.2.2.1 s.2.2.2.2.1 s.2.2.2.2.2 t.1 t.2.1 t.2.2.1 t.2.2.2.1 t.2.2.2.2.1 t.2.2.2.2.2 p).trans ?_;rw[gP ⟨h1,h2⟩,aI,if_pos hp,gR rfl,gP h2,aI];unfold sp;have n1:(dv (iO t)).1≠0:=fun hz=>by
  have:=Gs.1 (Cu hz);have o:=mD.1 h2.2.2;unfold fZ.uI at hs
  by_cases g:eZ (dv (iP t)) (0,0)<0
  ·have:=Dh.1 g;grind
  ·rw[if_neg g,if_neg (by rw[Cu hz];omega)]at hs;exact hs rfl
 have n2:(dv (iP t)).1≠0:=fun hz=>by
  have:=Gs.1 (Cu hz);have o:=mD.1 h2.2.2;unfold fZ.uI at hs;rw[if_neg (by rw[Cu hz];omega)]at hs
  by_cases g:0<eZ (dv (iO t)) (0,0)
  ·have:=zM.1 g;grind
  ·rw[if_neg g]at hs;exact hs rfl
 show aB (fZ.uI (dv (iO t)) (dv (iP t))==0) _ _=_;rw[bB hs];have p1:=h1.1.xD;have p2:=h1.2.1.xD;have p3:=h2.1.xD;have p4:=h2.2.1.xD;unfold My Mz at *
 by_cases c:fZ.uI (dv (iO t)) (dv (iP t))=-1
 ·rw[show(fZ.uI (dv (iO t)) (dv (iP t))==-1)=true from beq_iff_eq.2 c,cond_true]at i1 i2;show aB (fZ.uI (dv (iO t)) (dv (iP t))==-1) _ _=_;rw[bJ c,gP h1];simp only[aI];rw[gP h2];rw[show(fZ.uI (dv (iO t)) (dv (iP t))==-1)=true from beq_iff_eq.2 c,cond_true,cond_true];have e:=J hp (dW p2.Ie) (dW p1.Ie) (dW p4.Ie) (dW p3.Ie);rw[dZ,dZ,dZ,dZ]at e;dsimp only at e;exact e (by omega) (by omega) (cell p2.Ie (by dsimp only;rw[cIJ];exact l2)) (cell p1.Ie (by dsimp only;rw[cIJ];exact l1)) (cell p4.Ie (by dsimp only;rw[cIJ];exact l4)) (cell p3.Ie (by dsimp only;rw[cIJ];exact l3)) i1 i2
 ·rw[show(fZ.uI (dv (iO t)) (dv (iP t))==-1)=false from beq_eq_false_iff_ne.2 c,cond_false]at i1 i2;show aB (fZ.uI (dv (iO t)) (dv (iP t))==-1) _ _=_;rw[bB c];rw[show(fZ.uI (dv (iO t)) (dv (iP t))==-1)=false from beq_eq_false_iff_ne.2 c,cond_false,cond_false];exact J hp h1.1 h1.2.1 h2.1 h2.2.1 n1 n2 (h1.1.Bk l1) (h1.2.1.Bk l2) (h2.1.Bk l3) (h2.2.1.Bk l4) i1 i2
def aJ:dJ:=orc3 Ae Ae (pN .i64) sp
theorem ok:OK 119 aJ:=(dY E aE (aA zW.ok (aA fZ.ok (aA lB.ok (aA Pp.ok (aA Qa.ok (aA aEF.ok (aA aAP.ok aC))))))) func119).xN rfl spec
end jR
namespace VTurned
def E:=mE [(20,lB.aJ)] 29 [16] [(2,[3,4,6,7,11,12])] []
def aE:=bd f212
theorem aT:Nk E aE:=nk
def L2 a b c d e f g h i j k l m n o p q r s t u v:=qA E f212 aE 2 [dR 0 44 [dG a,gM b,cF c,dG d,gM e,cF f],dR 1 44 [dG g,gM h,cF i,dG j,gM k,cF l],dR 2 44 [dG m,sc (slice none 0 0),cF n,dG o,sc (slice none 0 0),cF p],dR 3 44 [dG q,sc (slice none 0 0),cF r,dG s,sc (slice none 0 0),cF t],bP u,bP v]
theorem start a b d e f g h i j k l m c:aF E f212 aE [D.agg [sc (bool a),ints u64 b,sc (int i64 d),sc (bool e),ints u64 f,sc (int i64 g)],D.agg [sc (bool h),ints u64 i,sc (int i64 j),sc (bool k),ints u64 l,sc (int i64 m)],D.s (sc (int i64 c))]=VTurned.L2 a b d e f g h i j k l m false 0 false 0 false 0 false 0 c 0:=eJ aT
theorem mG a b c d e f g h i j k l m n o p q r s t u v:L2 a b c d e f g h i j k l m n o p q r s t u v=letI A:=(a,b,c,d,e,f);letI C:=dv (iO A);letI B:=dv (iP A);aB (decide (v<u)) (aN (fD A) (aD (isNeg (-B.fst)) fun w=>aD (M6.dg (-B.fst).natAbs) fun x=>aD B.snd fun y=>aD (isNeg (-C.fst)) fun z=>aD (M6.dg (-C.fst).natAbs) fun aa=>aD C.snd fun ab=>VTurned.L2 g h i j k l w x y z aa ab m n o p q r s t u (i64.wrap (v+1)))) (some [D.agg [sc (bool a),ints u64 b,sc (int i64 c),sc (bool d),ints u64 e,sc (int i64 f)],D.agg [sc (bool g),ints u64 h,sc (int i64 i),sc (bool j),ints u64 k,sc (int i64 l)],D.s (sc (int i64 0))]):=lJ aT
def trn(s c:(Int×Int)×(Int×Int)):Nat->((Int×Int)×(Int×Int))×((Int×Int)×(Int×Int))
 |0=>(s,c)
 |n+1=>trn c (lB.yB s.2,lB.yB s.1) n
def sp(s c:yM)(q:Int):Prop×List D:=(fD s/\fD c/\0<=q/\q<=3,[wY (trn (dv (iO s),dv (iP s)) (dv (iO c),dv (iP c)) q.toNat).1.1 (trn (dv (iO s),dv (iP s)) (dv (iO c),dv (iP c)) q.toNat).1.2,wY (trn (dv (iO s),dv (iP s)) (dv (iO c),dv (iP c)) q.toNat).2.1 (trn (dv (iO s),dv (iP s)) (dv (iO c),dv (iP c)) q.toNat).2.2,.s (.sc (.int .i64 0))])
theorem aNO{s:yM}(h:fD s):fD (nU (lB.yB (dv (iP s))) (lB.yB (dv (iO s)))):=by
 refine yW h.2.1.xD.Ie h.1.xD.Ie ?_;have:=mD.1 h.2.2;refine mD.2 ?_;unfold lB.yB;rw[nV,nV];grind
theorem L:∀(d k:Nat) (s c:yM),k+d<=1000->fD s->fD c->L2 s.1 s.2.1 s.2.2.1 s.2.2.2.1 s.2.2.2.2.1 s.2.2.2.2.2 c.1 c.2.1 c.2.2.1 c.2.2.2.1 c.2.2.2.2.1 c.2.2.2.2.2 false 0 false 0 false 0 false 0 ((k+d:Nat):Int) (k:Int)=some [wY (trn (dv (iO s),dv (iP s)) (dv (iO c),dv (iP c)) d).1.1 (trn (dv (iO s),dv (iP s)) (dv (iO c),dv (iP c)) d).1.2,wY (trn (dv (iO s),dv (iP s)) (dv (iO c),dv (iP c)) d).2.1 (trn (dv (iO s),dv (iP s)) (dv (iO c),dv (iP c)) d).2.2,.s (.sc (.int .i64 0))]
 |0,k,s,c,h,h1,h2=>by
  rw[mG,aL];unfold trn;dsimp only;rw[h1.wY,h2.wY]
 |d+1,k,s,c,h,h1,h2=>by
  have e:i64.wrap ((k:Int)+1)=((k+1:Nat):Int):=by rw[wrap_i64];omega
  rw[mG,aM,gP h1];simp only[aI,e];have r:=L d (k+1) c (nU (lB.yB (dv (iP s))) (lB.yB (dv (iO s)))) (by omega) h2 (aNO h1);rw[qF,qG,show k+1+d=k+(d+1) by omega]at r;exact r
theorem spec:oG E f212 aE Ae Ae (pN .i64) sp:=by
 rintro s c q ⟨h1,h2,q0,q1⟩;refine(start s.1 s.2.1 s.2.2.1 s.2.2.2.1 s.2.2.2.2.1 s.2.2.2.2.2 c.1 c.2.1 c.2.2.1 c.2.2.2.1 c.2.2.2.2.1 c.2.2.2.2.2 q).trans ?_;obtain⟨n,rfl⟩:=cGR q0;have:=L n 0 s c (by omega) h1 h2;rw[cBR]at this;exact this
def aJ:dJ:=orc3 Ae Ae (pN .i64) sp
theorem ok:OK 212 aJ:=(dY E aE (aA lB.ok aC) func212).xN rfl spec
end VTurned
end W
namespace M
open Go AI W
structure Bx(s:(Int×Int)×(Int×Int))(V W m:Rat):Prop where
 pl:kQ s.1
 ph:kQ s.2
 bl:bl s.1.1.natAbs<=100000
 bh:M.bl s.2.1.natAbs<=100000
 m0:0<=m
 lo:R.qz s.1+m<=V
 hi:V+m<=R.qz s.2
 wd:R.qz s.2-R.qz s.1<=W
theorem Bx.neg{s:(Int×Int)×(Int×Int)}{V W m:Rat}(h:Bx s V W m):Bx (lB.yB s.2,lB.yB s.1) (-V) W m:=by
 obtain⟨h1,h2,h3,h4,h5,h6,h7,h8⟩:=h;refine⟨h2.Ie,h1.Ie,?_,?_,h5,?_,?_,?_⟩
 ·show M.bl (-s.2.1).natAbs<=_;rw[cIJ];exact h4
 ·show M.bl (-s.1.1).natAbs<=_;rw[cIJ];exact h3
 ·show R.qz (-s.2.1,s.2.2)+m<=_;rw[nV];grind
 ·show _<=R.qz (-s.1.1,s.1.2);rw[nV];grind
 ·show R.qz (-s.1.1,s.1.2)-R.qz (-s.2.1,s.2.2)<=_;rw[nV,nV];grind
theorem Bx.Aw{s:(Int×Int)×(Int×Int)}{V W m:Rat}(h:Bx s V W m):fD (nU s.1 s.2):=yW h.pl h.ph (mD.2 (by have:=h.lo;have:=h.hi;have:=h.m0;grind))
theorem Bx.trn{s c:(Int×Int)×(Int×Int)}{S C Ws Wc m:Rat}(hs:Bx s S Ws m)(hc:Bx c C Wc m){k:Int} :
  Bx (VTurned.trn s c (k%4).toNat).1 (R.rs k S C) (if k%2=0 then Ws else Wc) m/\Bx (VTurned.trn s c (k%4).toNat).2 (R.rc k S C) (if k%2=0 then Wc else Ws) m:=by
 have h4:k%4=0\/k%4=1\/k%4=2\/k%4=3:=by omega
 unfold R.rs R.rc;rcases h4 with h |h |h |h
 ·have h2:k%2=0:=by omega
  simp[h,h2];exact⟨hs,hc⟩
 ·have h2:k%2=1:=by omega
  simp[h,h2];exact⟨hc,hs.neg⟩
 ·have h2:k%2=0:=by omega
  simp[h,h2];exact⟨hs.neg,hc.neg⟩
 ·have h2:k%2=1:=by omega
  simp[h,h2];have e:s=(lB.yB (lB.yB s.1),lB.yB (lB.yB s.2)):=by
   obtain⟨⟨a,b⟩,c,d⟩:=s;unfold lB.yB;dsimp only;rw[Int.neg_neg,Int.neg_neg]
  refine⟨hc.neg,?_⟩;have:=hs;rw[e]at this;exact this
theorem aVW(up:Bool){z:Int}{v:Rat}{k:Nat}(hk:1<=k)(h:(z:Rat)=v\/(z%2=1/\(z:Rat)-1<v/\v<(z:Rat)+1)) :
  (up=false->(lH.qW up z k:Rat)*((2^k:Nat):Rat)<=v/\v<=(lH.qW up z k:Rat)*((2^k:Nat):Rat)+((2^k:Nat):Rat))/\(up=true->v<=(lH.qW up z k:Rat)*((2^k:Nat):Rat)/\(lH.qW up z k:Rat)*((2^k:Nat):Rat)<=v+((2^k:Nat):Rat)):=by
 obtain⟨c1,c2⟩:=aHA up z k;have K0:(0:Rat)<((2^k:Nat):Rat):=by exact_mod_cast cEP (by decide)
 rcases h with h |⟨ho,h1,h2⟩
 ·rw[<-h];exact⟨fun hu=>⟨(c1 hu).1,cGW (c1 hu).2⟩,fun hu=>⟨(c2 hu).1,cGW (c2 hu).2⟩⟩
 ·
  have ev:(2:Int)∣((2^k:Nat):Int):=by
   obtain⟨j,rfl⟩:∃j,k=j+1:=⟨k-1,by omega⟩;rw[cGO];exact⟨((2^j:Nat):Int),by push_cast;omega⟩
  have fl:∀w:Int,w%2=1->w/((2^k:Nat):Int)*((2^k:Nat):Int)+1<=w/\w+1<=w/((2^k:Nat):Int)*((2^k:Nat):Int)+((2^k:Nat):Int):=by
   intro w hw;have e:=cKS w ((2^k:Nat):Int);have hp:(0:Int)<((2^k:Nat):Int):=by have:=cEP (n:=k) (show 0<2 by decide);omega
   have m0:=cKT w (show((2^k:Nat):Int)≠0 by omega);have m1:=cKU w hp;have m2:w%((2^k:Nat):Int)%2=1:=by rw[Int.emod_emod_of_dvd w ev];exact hw
   rw[cJO]at e;generalize w/((2^k:Nat):Int)*((2^k:Nat):Int)=P at *;omega
  constructor
  ·rintro rfl;unfold lH.qW;rw[cond_false];obtain⟨f1,f2⟩:=fl z ho;have cAR:((z/((2^k:Nat):Int):Int):Rat)*((2^k:Nat):Rat)+1<=(z:Rat):=by exact_mod_cast f1
   have cAQ:(z:Rat)+1<=((z/((2^k:Nat):Int):Int):Rat)*((2^k:Nat):Rat)+((2^k:Nat):Rat):=by exact_mod_cast f2
   generalize ((z/((2^k:Nat):Int):Int):Rat)*((2^k:Nat):Rat)=P at *;constructor <;> grind
  ·rintro rfl;unfold lH.qW;rw[cond_true];obtain⟨f1,f2⟩:=fl (-z) (by omega);have cAR:((-z/((2^k:Nat):Int):Int):Rat)*((2^k:Nat):Rat)+1<=-(z:Rat):=by exact_mod_cast f1
   have cAQ:-(z:Rat)+1<=((-z/((2^k:Nat):Int):Int):Rat)*((2^k:Nat):Rat)+((2^k:Nat):Rat):=by exact_mod_cast f2
   rw[cOO];have e:-((-z/((2^k:Nat):Int):Int):Rat)*((2^k:Nat):Rat)=-(((-z/((2^k:Nat):Int):Int):Rat)*((2^k:Nat):Rat)):=by grind
   rw[e];generalize ((-z/((2^k:Nat):Int):Int):Rat)*((2^k:Nat):Rat)=P at *;constructor <;> grind
theorem aTN{a b s:Nat}(hb:0<b):∃v:Rat,v*(b:Rat)=2*((a:Rat)*((2^s:Nat):Rat))/\0<=v/\((cU.Yb a b s:Rat)=v\/(cU.Yb a b s%2=1/\(cU.Yb a b s:Rat)-1<v/\v<(cU.Yb a b s:Rat)+1)):=by
 have b0:(0:Rat)<(b:Rat):=by exact_mod_cast hb
 have hd:=cGV (a*2^s) b;have hm:=cDX (a*2^s) hb;have A:(b:Rat)*((a*2^s/b:Nat):Rat)+((a*2^s%b:Nat):Rat)=(a:Rat)*((2^s:Nat):Rat):=by exact_mod_cast hd
 have Mm:((a*2^s%b:Nat):Rat)<(b:Rat):=by exact_mod_cast hm
 have q0:(0:Rat)<=((a*2^s/b:Nat):Rat):=by exact_mod_cast cHS _
 have m0:(0:Rat)<=((a*2^s%b:Nat):Rat):=by exact_mod_cast cHS _
 refine⟨2*((a:Rat)*((2^s:Nat):Rat))/(b:Rat),by grind,?_,?_⟩
 ·refine R.cO b0 ?_;have:(b:Rat)*(2*((a:Rat)*((2^s:Nat):Rat))/(b:Rat))=2*((a:Rat)*((2^s:Nat):Rat)):=by grind
  rw[this,<-A];have:=R.aG (cGW b0) q0;grind
 ·have e:(b:Rat)*(2*((a:Rat)*((2^s:Nat):Rat))/(b:Rat))=2*((b:Rat)*((a*2^s/b:Nat):Rat)+((a*2^s%b:Nat):Rat)):=by rw[A];grind
  generalize 2*((a:Rat)*((2^s:Nat):Rat))/(b:Rat)=v at *;unfold cU.Yb
  by_cases hz:a*2^s%b=0
  ·left;rw[if_pos hz,cCN,cIO];rw[hz]at e;have z:((0:Nat):Rat)=0:=by norm_cast
   have two:((2:Nat):Rat)=2:=by norm_cast
   rw[z]at e;rw[two];have:(b:Rat)*v=(b:Rat)*(((a*2^s/b:Nat):Rat)*2):=by rw[e];grind
   exact(cPY (R.cO b0 (by rw[this];exact cID)) (R.cO b0 (by rw[this];exact cID))).symm
  ·right;have m1:(1:Rat)<=((a*2^s%b:Nat):Rat):=by exact_mod_cast(show 1<=a*2^s%b by omega)
   rw[if_neg hz];have c:((a*2^s/b*2+1:Nat):Rat)=2*((a*2^s/b:Nat):Rat)+1:=by
    rw[cMB,cIO];have two:((2:Nat):Rat)=2:=by norm_cast
    have one:((1:Nat):Rat)=1:=by norm_cast
    rw[two,one];grind
   rw[c];refine⟨by omega,?_,?_⟩
   ·refine R.sZ b0 ?_;rw[e];grind
   ·refine R.sZ b0 ?_;rw[e];grind
end M
namespace W
open Go AI M
namespace Fe
def E:=mE [(161,Cc.aJ),(67,wV.aJ)] 20 [] [(4,[10,11,12])] []
def aE:=bd f117
theorem aT:Nk E aE:=nk
def L4(a:Nat)(b:Nat->Bool)(c:Nat->List Int)(d:Nat->Int)(e:Nat->Bool)(f:Nat->List Int)(g:Nat->Int) h j:=qA E f117 aE 4 [(A.v (V.one (L.rows 6 a fun i=>[sc (bool (b i)),ints u64 (c i),sc (int i64 (d i)),sc (bool (e i)),ints u64 (f i),sc (int i64 (g i))])),none),bP h,bP j]
theorem start p (a:yM):aF E f117 aE [D.s (sc (int i64 p)),D.rows 6 1 fun i=>[sc (bool a.fst),ints u64 a.snd.fst,sc (int i64 a.snd.snd.fst),sc (bool a.snd.snd.snd.fst),ints u64 a.snd.snd.snd.snd.fst,sc (int i64 a.snd.snd.snd.snd.snd)]]=aN True (aB (!(decide (1<=p)&&decide (p<=70000))) (some [D.s (sc (int i64 1))]) (Fe.L4 1 (fun i=>a.fst) (fun i=>a.snd.fst) (fun i=>a.snd.snd.fst) (fun i=>a.snd.snd.snd.fst) (fun i=>a.snd.snd.snd.snd.fst) (fun i=>a.snd.snd.snd.snd.snd) 1 0)):=eJ aT
theorem nR a b c d e f g h j:L4 a b c d e f g h j=aB (decide (j<h)) (if 0<=j/\j<(a:Int)then aN (fD (b j.toNat,c j.toNat,d j.toNat,e j.toNat,f j.toNat,g j.toNat)) (Fe.L4 a (fun i=>b i) (fun i=>c i) (fun i=>d i) (fun i=>e i) (fun i=>f i) (fun i=>g i) h (i64.wrap (j+1)))else none) (some [D.s (sc (int i64 0))]):=lJ aT
def sp(p:Int)(a:yM):Prop×List D:=(fD a,[.s (.sc (.int .i64 (if 1<=p/\p<=70000 then 0 else 1)))])
theorem L(n:Nat)(f:Nat->yM)(hn:n<=1000)(hf:∀i,i<n->fD (f i)):∀d k:Nat,k+d=n->L4 n (fun i=>(f i).1) (fun i=>(f i).2.1) (fun i=>(f i).2.2.1) (fun i=>(f i).2.2.2.1) (fun i=>(f i).2.2.2.2.1) (fun i=>(f i).2.2.2.2.2) (n:Int) (k:Int)=some [D.s (.sc (.int .i64 0))]
 |0,k,h=>by rw[nR,aL]
 |d+1,k,h=>by
  have e:i64.wrap ((k:Int)+1)=((k+1:Nat):Int):=by rw[wrap_i64];omega
  rw[nR,aM,aR,cFM,gP (hf k (by omega)),e];exact L n f hn hf d (k+1) (by omega)
theorem spec:fN E f117 aE (pN .i64) (bRE (.pair sB (.pair (sI .u64) (.pair (sN .i64) (.pair sB (.pair (sI .u64) (sN .i64)))))) (false,[],0,false,[],0)) sp:=by
 intro p a h;have hf:∀i,i<1->fD (a):=fun i hi=>h
 refine(start p a).trans ((gP trivial).trans ?_);unfold sp
 by_cases hp:1<=p/\p<=70000
 ·rw[if_pos hp,decide_eq_true hp.1,decide_eq_true hp.2];exact L 1 (fun _=>a) (by decide) hf 1 0 (by omega)
 ·rw[if_neg hp];have:(decide (1<=p)&&decide (p<=70000))=false:=by
   rw[cNJ,decide_eq_false_iff_not,decide_eq_false_iff_not];omega
  rw[this];rfl
def aJ:dJ:=orc2 (pN .i64) (bRE (.pair sB (.pair (sI .u64) (.pair (sN .i64) (.pair sB (.pair (sI .u64) (sN .i64)))))) (false,[],0,false,[],0)) sp
theorem ok:OK 117 aJ:=(dY E aE (aA Cc.ok (aA wV.ok aC)) func117).lD rfl spec
end Fe
namespace aRL
def E:=mE [(203,Cr.aJ),(56,kU.aJ)] 24 [10] [] []
def aE:=bd f213
theorem aT:Nk E aE:=nk
theorem start a b c:aF E f213 aE [D.agg [sc (bool a),ints u64 b,sc (int i64 c)]]=letI B:=dv (a,b,c);aN (aU (a,b,c)) (aD (if B.fst=0 then(0:Int)else c+(↑(bl (M6.val b)):Int)-(1:Int)) fun d=>letI C:=i64.wrap ((0:Int)-d);letI A:=bif kU.Hw B C then kU.Qd B C else((0:Int),(0:Int));aN (aU (a,b,c)/\(-9223372036854775808:Int)<=i64.wrap ((0:Int)-d)/\i64.wrap ((0:Int)-d)<9223372036854775808) (aD (M6.dg A.fst.natAbs) fun e=>aD A.snd fun f=>some [D.agg [sc (bool false),ints u64 e,sc (int i64 f)],D.s (sc (int i64 d))])):=eJ aT
def sp(x:gW):Prop×List D:=(aU x/\(dv x).1≠0,[dD (((dv x).1.natAbs:Nat),1-(bl (dv x).1.natAbs:Nat)),.s (.sc (.int .i64 (bA (dv x))))])
theorem spec:iS E f213 aE kA sp:=by
 rintro x ⟨hx,h0⟩;have he:=hx.2.1;have ha:(dv x).1.natAbs=M6.val x.2.1:=iY (x.1,x.2.1);have hb:=hx.Fp.bl;dsimp only at hb;have hb0:=qZ (n:=M6.val x.2.1) (by omega);refine(start x.1 x.2.1 x.2.2).trans ?_;have ht:x.2.2+(bl (M6.val x.2.1):Int)-1=bA (dv x):=by unfold bA;rw[ha];rfl
 have h2:(dv x).2=x.2.2:=rfl;have Qj:kU.Hw (dv x) (0-bA (dv x))=true:=by
  unfold kU.Hw;rw[decide_eq_false h0,cDQ,decide_eq_true (by omega),decide_eq_true (by omega)];rfl
 have bXA:kU.Qd (dv x) (0-bA (dv x))=((dv x).1,1-((bl (dv x).1.natAbs:Nat):Int)):=by
  unfold kU.Qd;rw[if_neg h0];congr 1;unfold bA;omega
 have bAM:isNeg ((((dv x).1.natAbs:Nat):Int))=false:=gH.2 (by omega);simp only[aI];have bPX:¬((dv (x.1,x.2.1,x.2.2)).1=0):=h0;rw[gP hx,if_neg bPX,ht,wrap_i64 (n:=0-bA (dv x)),gP ⟨hx,by omega,by omega⟩,show dv (x.1,x.2.1,x.2.2)=dv x from rfl,Qj,cond_true,bXA];unfold sp dD
 try dsimp only
 rw[bAM,cHH]
def aJ:dJ:=orc1 kA sp
theorem ok:OK 213 aJ:=(dY E aE (aA Cr.ok (aA kU.ok aC)) func213).oU rfl spec
end aRL
namespace Hf
def E:=mE [(117,Fe.aJ),(120,Jj.aJ),(159,fZ.aJ),(59,Wu.aJ),(213,aRL.aJ)] 77 [19,41] [(15,[1,9,11])] [15]
def aE:=bd f174
theorem aT:Nk E aE:=nk
def aLB a b c d e f g:=lK E f174 aE 15 [bP a,dR 1 29 [dG b,gM c,cF d],dR 2 29 [dG e,gM f,cF g]]
theorem start a c d e f g b:aF E f174 aE [D.agg [sc (bool a),ints u64 c,sc (int i64 d),sc (bool e),ints u64 f,sc (int i64 g)],D.s (sc (int i64 b))]=letI G:=sc (bool false);letI F:=dv (e,f,g);letI C:=(a,c,d,e,f,g);letI B:=dv (a,c,d);letI A:=bif bV.kY F (-B.fst,B.snd)then bV.oP F (-B.fst,B.snd)else((0:Int),(0:Int));aN (fD C) (aD (if 1<=b/\b<=70000 then(0:Int)else(1:Int)) fun h=>aB (h !=0) (some [D.s G,D.s (sc (int i64 h))]) (aN (aU (a,c,d)/\aU (e,f,g)) (aD (eZ B F) fun i=>aB (i==0) (some [D.s (sc (bool true)),D.s (sc (int i64 0))]) (aN (fD C) (aD (fZ.uI (dv (iO C)) (dv (iP C))) fun j=>aB (j==0) (some [D.s G,D.s (sc (int i64 0))]) (aN (aU (e,f,g)/\aU (a,c,d)) (aD (isNeg A.fst) fun k=>aD (M6.dg A.fst.natAbs) fun l=>aD A.snd fun m=>aD (bif bV.kY F (-B.fst,B.snd)then(0:Int)else(5:Int)) fun n=>aB (n !=0) (some [D.s G,D.s (sc (int i64 n))]) (aB (decide (j<0)) (Hf.aLB b k l m e f g) (Hf.aLB b k l m a c d))))))))):=eJ aT
theorem Py a b c d e f g:aLB a b c d e f g=letI B:=dv (e,f,g);letI F:=(B.fst.natAbs:Int);letI A:=dv (b,c,d);letI C:=(A.fst.natAbs:Int);aN (aU (b,c,d)/\A.fst≠0) (aD (isNeg C) fun h=>aD (M6.dg C.natAbs) fun i=>aD ((1:Int)-(↑(bl A.fst.natAbs):Int)) fun j=>aD (bA A) fun k=>aN (aU (e,f,g)/\B.fst≠0) (aD (isNeg F) fun l=>aD (M6.dg F.natAbs) fun m=>aD ((1:Int)-(↑(bl B.fst.natAbs):Int)) fun n=>aD (bA B) fun o=>aB (i64.wrap (k+a) !=o) (some [D.s (sc (bool (decide (i64.wrap (k+a)<o)))),D.s (sc (int i64 0))]) (aN (aU (h,i,j)/\aU (l,m,n)) (aD (eZ (dv (h,i,j)) (dv (l,m,n))) fun p=>some [D.s (sc (bool (decide (p<=0)))),D.s (sc (int i64 0))])))):=cJ aT
def bDO(a b:Int×Int)(p:Int):Bool :=
 bif eZ a b==0 then true else bif fZ.uI a b==0 then false else
 bif (bA (bV.oP b (-a.1,a.2))+p) !=bA (bif decide (fZ.uI a b<0)then b else a)then decide (bA (bV.oP b (-a.1,a.2))+p<bA (bif decide (fZ.uI a b<0)then b else a))
 else decide (eZ (aKI (bV.oP b (-a.1,a.2))) (aKI (bif decide (fZ.uI a b<0)then b else a))<=0)
def sp(s:yM)(p:Int):Prop×List D:=(fD s/\(1<=p/\p<=70000)/\bV.kY (dv (iP s)) (-(dv (iO s)).1,(dv (iO s)).2)=true,[.s (.sc (.bool (bDO (dv (iO s)) (dv (iP s)) p))),.s (.sc (.int .i64 0))])
theorem J{p:Int}{w n:Int×Int}{x:gW}(hp:1<=p/\p<=70000)(hw:kQ w)(hn:aU x)(he:dv x=n)(w0:w.1≠0)(n0:n.1≠0) :
  aLB p (isNeg w.1) (M6.dg w.1.natAbs) w.2 x.1 x.2.1 x.2.2=some [.s (.sc (.bool (bif (bA w+p) !=bA n then decide (bA w+p<bA n)else decide (eZ (aKI w) (aKI n)<=0)))),.s (.sc (.int .i64 0))]:=by
 subst he;have c:=dZ w;have cx:(x.1,x.2.1,x.2.2)=x:=rfl;have t1:=hw.top;have t2:=hn.xD.top;rw[Py];simp only[aI,c,cx];rw[gP ⟨dW hw,w0⟩,gP ⟨hn,n0⟩,wrap_i64 (n:=bA w+p)]
 by_cases h:bA w+p=bA (dv x)
 ·rw[gR h];have d1:=dW (aNC hw w0);have d2:=dW (aNC hn.xD n0);have e1:=dZ (aKI w);have e2:=dZ (aKI (dv x));rw[show((bA w+p) !=bA (dv x))=false from by rw[h];exact bne_self_eq_false _,cond_false];unfold aKI at d1 d2 e1 e2 ⊢;dsimp only at d1 d2 e1 e2 ⊢;rw[gP ⟨d1,d2⟩,e1,e2]
 ·rw[oM h,show((bA w+p) !=bA (dv x))=true from bne_iff_ne.2 h,cond_true]
theorem spec:fN E f174 aE Ae (pN .i64) sp:=by
 rintro s p ⟨h1,hp,ao⟩;have hL:aU (s.1,s.2.1,s.2.2.1):=h1.1;have hH:aU (s.2.2.2.1,s.2.2.2.2.1,s.2.2.2.2.2):=h1.2.1;refine(start s.1 s.2.1 s.2.2.1 s.2.2.2.1 s.2.2.2.2.1 s.2.2.2.2.2 p).trans ?_;rw[gP h1,aI,if_pos hp,gR rfl,gP ⟨hL,hH⟩,aI];unfold sp bDO;dsimp only;unfold iO iP at *;generalize ha:dv (s.1,s.2.1,s.2.2.1)=a at *;generalize hb:dv (s.2.2.2.1,s.2.2.2.2.1,s.2.2.2.2.2)=b at *
 by_cases c:eZ a b=0
 ·rw[bJ c,show(eZ a b==0)=true from beq_iff_eq.2 c,cond_true]
 ·rw[bB c,show(eZ a b==0)=false from beq_eq_false_iff_ne.2 c,cond_false,gP h1,aI]
  by_cases d:fZ.uI a b=0
  ·rw[bJ d,show(fZ.uI a b==0)=true from beq_iff_eq.2 d,cond_true]
  ·rw[bB d,show(fZ.uI a b==0)=false from beq_eq_false_iff_ne.2 d,cond_false,gP ⟨hH,hL⟩,ao];simp only[aI,cond_true];rw[gR rfl];have pa:kQ a:=ha▸hL.xD;have pb:kQ b:=hb▸hH.xD;have pw:=Uf pb (by obtain⟨x1,x2,x3,x4⟩:=pa;exact⟨by dsimp only;rw[cIJ];exact x1,x2,fun h=>x3 (by dsimp only at h;omega),fun h=>by dsimp only at h ⊢;have:=x4 (by omega);omega⟩) ao;have w0:=aMJ c
   by_cases g:fZ.uI a b<0
   ·have n0:b.1≠0:=fun hz=>by
     have:=Cu hz;unfold fZ.uI at g;rw[aP]at g;split at g <;> omega
    rw[aM g,decide_eq_true g,cond_true];exact J hp pw hH hb w0 n0
   ·have n0:a.1≠0:=fun hz=>by
     have:=Cu hz;unfold fZ.uI at g d;split at g
     ·omega
     ·rw[aP,aP]at d;exact d rfl
    rw[aL g,decide_eq_false g,cond_false];exact J hp pw hL ha w0 n0
def aJ:dJ:=orc2 Ae (pN .i64) sp
theorem ok:OK 174 aJ:=(dY E aE (aA Fe.ok (aA Jj.ok (aA fZ.ok (aA Wu.ok (aA aRL.ok aC))))) func174).lD rfl spec
end Hf
end W
end Go.Proofs.YtplagoepbghhpaaGreatDoor
end
