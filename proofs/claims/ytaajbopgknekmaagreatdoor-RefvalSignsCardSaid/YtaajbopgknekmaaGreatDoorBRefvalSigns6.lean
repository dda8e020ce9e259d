/- Contracts of functions and laws, for the claim on RefvalSigns. -/
import Derived.Test.YtaajbopgknekmaaGreatDoorBShared5
set_option linter.unusedVariables false
set_option linter.unusedSimpArgs false
set_option exponentiation.threshold 10000000
noncomputable section
open Go.IntKind(i8 i16 i32 i64 u8 u16 u32 u64)
open Go.Proofs.Tryz
namespace Go.Proofs.YtaajbopgknekmaaGreatDoor
open Go.Value(int bool slice)
open AI.S(sc ints)
namespace W
open Go AI M
namespace zZ
def E:=mE [(18,pU.aJ),(13,aI.aJ),(15,Dd.aJ),(27,qZ.aJ)] 58 [57] [] []
def aF:=bd f12
theorem aU:Nk E aF:=nk
theorem start a b c d:aG E f12 aF [D.agg [sc (int i64 a),sc (int i64 b),sc (int u64 c),sc (int i64 d)]]=letI B:=some [D.s (sc (bool true))];letI A:=aI.iJ b c d;aD (a==1) (aO (0<=c/\c<18446744073709551616) (aC (bQ.pP b c 8) fun e=>aO (0<=c/\c<18446744073709551616) (aC (bQ.pP b c 1) fun f=>aD (pU.Yz b c==qZ.aYR b c) (some [D.s (sc (bool (e==f)))]) (some [D.s (sc (bool false))])))) (aD (a==2) (aO (0<=c/\c<18446744073709551616) (aC (isNeg A.fst.fst) fun g=>aC (M6.dg A.fst.fst.natAbs) fun h=>aC A.fst.snd fun i=>aC (isNeg A.snd.fst) fun j=>aC (M6.dg A.snd.fst.natAbs) fun k=>aC A.snd.snd fun l=>letI C:=(g,h,i,j,k,l);aO ((0<=c/\c<18446744073709551616)/\dR C/\bQ.pP b c d=bQ.pP b c d/\dv (fL C)=A.fst/\dv (fO C)=A.snd) B)) B):=eJ aU
abbrev bXB:=Int×Int×Int×Int
def sp(o:bXB):Prop×List D:=(0<=o.2.2.1/\o.2.2.1<18446744073709551616,[.s (.sc (.bool true))])
theorem spec:iD E f12 aF (pG (.pair (sN .i64) (.pair (sN .i64) (.pair (sN .u64) (sN .i64))))) sp:=by
 intro o h;have h:0<=o.2.2.1/\o.2.2.1<18446744073709551616:=h;refine(start o.1 o.2.1 o.2.2.1 o.2.2.2).trans ?_
 by_cases c1:o.1=1
 ·rw[cL c1,gP h,aB,gP h,aB,aFK h,Rq,cL rfl];rw[show(bQ.pP o.2.1 o.2.2.1 1==bQ.pP o.2.1 o.2.2.1 1)=true from beq_self_eq_true _];rfl
 ·rw[cO c1]
  by_cases c2:o.1=2
  ·rw[cL c2,gP h,aB,aB,aB,aB,aB,aB];have q:=aI.yB (fn:=o.2.1) (p:=o.2.2.2) h;exact gP ⟨h,q,rfl,jU _ _,jV _ _⟩
  ·rw[cO c2];rfl
def aJ:dG:=orc1 (pG (.pair (sN .i64) (.pair (sN .i64) (.pair (sN .u64) (sN .i64))))) sp
theorem ok:OK 12 aJ:=(dZ E aF (aA pU.ok (aA aI.ok (aA Dd.ok (aA qZ.ok aE)))) func12).oS rfl spec
end zZ
namespace LawSigns
def E:=mE [(11,nY.aJ),(12,zZ.aJ)] 12 [10] [] []
def aF:=bd f3
theorem aU:Nk E aF:=nk
theorem start a b:aG E f3 aF [D.s (sc (int i64 a)),D.s (sc (int u64 b))]=aO True (aO (0<=b/\b<18446744073709551616) (some [D.s (sc (bool true))])):=eJ aU
def sp(fn b:Int):Prop×List D:=(0<=b/\b<18446744073709551616,[.s (.sc (.bool true))])
theorem spec:eR E f3 aF (pN .i64) (pN .u64) sp:=fun fn b h =>
 (start fn b).trans ((gP trivial).trans (gP h))
def aJ:dG:=orc2 (pN .i64) (pN .u64) sp
theorem fnok:qG prog E 3 f3 aF:=Hy oA mixed (iH _ rfl (aA nY.ok (aA zZ.ok aE)) (lA)) func3 rfl rfl rfl
theorem ok:lT prog base.glob 3 aJ:=fnok.jR rfl spec
end LawSigns
end W
end Go.Proofs.YtaajbopgknekmaaGreatDoor
end
