/-
  NARROWER THAN 'FOR EVERY INPUT', by the rows' own cells (each row's printed sentence says how): TurnPeriod: laid · ZivLadders: laid · ZivFixed: laid · ZivOdd: laid · ZivNarrows: laid · ZivRises: laid · ZivTurns: laid.
  DERIVED. THE GIVEN ROWS OF THIS SEAT. 7 by the template 'for every input the law returns true; each argument reads behind the call as it read before'; 0 by the template 'total and deterministic' (their statements: YtplagoepbghhpaaGreatDoorTotals.lean).
  GIVEN WITH THE SEED: the statements are not yours to turn. If you find one false, say at which input.
  Laid BY PROGRAM, IN A SANDBOX (cutbox-rows.mjs): the forced cells as the released guide's own fill.sh prints them over the translation 2c777a84e2258364… (all of the seat's roots in one cut). By AI agents, Wed Nov 11 2026. No macro, syntax, notation, axiom, sorry.
-/
import Derived.Test.YtplagoepbghhpaaGreatDoorChecked
import GoSem.Claim
import GoSem.ClaimJoined
import GoSem.ClaimMapViews
import Derived.JoinedTies
import Derived.KernelRfl
namespace Go.Proofs.YtplagoepbghhpaaGreatDoor
/- THE CELL 'sum', in the pinned program and in every row, IS THE sha256 OF THE DUMP (.gsa) THAT YtplagoepbghhpaaGreatDoorProg.lean LOADS. Nothing in Lean hashes anything: it is a label: what it is worth is what the hold of that sum in a sandbox is worth. -/
noncomputable def Tryz.pinned : Pinned := { name := "ytplagoepbghhpaagreatdoor", sum := "2c777a84e22583643cddff793b182b71a946a9025fd6ab5cb4b63d745657293d", checked := Tryz.checked }
namespace Rows
def none {H : Type} : Left H := { results := [], args := [] }

/- WHAT THE LISTED PACKAGE-LEVEL VARIABLES READ AS WHEN THE CALL BEGINS. Each datum BY PROGRAM (the guide's laid-datum.mjs) off the statement by which the dump's own 'gosem.cut.vars' lays the variable. In a bare row this is a premise. The card (YtplagoepbghhpaaGreatDoorCards.lean) ties it to the program's text. -/
def laid_math_bits_deBruijn64tab {H : Type} : DataW H := .agg [.lit (.int .u8 0), .lit (.int .u8 1), .lit (.int .u8 56), .lit (.int .u8 2), .lit (.int .u8 57), .lit (.int .u8 49), .lit (.int .u8 28), .lit (.int .u8 3), .lit (.int .u8 61), .lit (.int .u8 58), .lit (.int .u8 42), .lit (.int .u8 50), .lit (.int .u8 38), .lit (.int .u8 29), .lit (.int .u8 17), .lit (.int .u8 4), .lit (.int .u8 62), .lit (.int .u8 47), .lit (.int .u8 59), .lit (.int .u8 36), .lit (.int .u8 45), .lit (.int .u8 43), .lit (.int .u8 51), .lit (.int .u8 22), .lit (.int .u8 53), .lit (.int .u8 39), .lit (.int .u8 33), .lit (.int .u8 30), .lit (.int .u8 24), .lit (.int .u8 18), .lit (.int .u8 12), .lit (.int .u8 5), .lit (.int .u8 63), .lit (.int .u8 55), .lit (.int .u8 48), .lit (.int .u8 27), .lit (.int .u8 60), .lit (.int .u8 41), .lit (.int .u8 37), .lit (.int .u8 16), .lit (.int .u8 46), .lit (.int .u8 35), .lit (.int .u8 44), .lit (.int .u8 21), .lit (.int .u8 52), .lit (.int .u8 32), .lit (.int .u8 23), .lit (.int .u8 11), .lit (.int .u8 54), .lit (.int .u8 26), .lit (.int .u8 40), .lit (.int .u8 15), .lit (.int .u8 34), .lit (.int .u8 20), .lit (.int .u8 31), .lit (.int .u8 10), .lit (.int .u8 25), .lit (.int .u8 14), .lit (.int .u8 19), .lit (.int .u8 9), .lit (.int .u8 13), .lit (.int .u8 8), .lit (.int .u8 7), .lit (.int .u8 6)]

/-- 'gnomonlaw17.TurnPeriod': WHATEVER THE INPUT: true; the input reads as it did. -/
def turnPeriodSpec : ChangeSpec := { name := "turnPeriod", fn := fun _ => fun
  | [d1, d2, d3] => { results := [.lit (.bool true)], args := [d1, d2, d3] }
  | _ => none }
def turnPeriodRow : OpenClaim := { program := "ytplagoepbghhpaagreatdoor", sum := "2c777a84e22583643cddff793b182b71a946a9025fd6ab5cb4b63d745657293d", func := "gnomon/gnomonlaw17.TurnPeriod", spec := "turnPeriod", inPlace := ["math/bits.Add64", "math/bits.Sub64"], unfollowed := true, recurses := true, named := ["math/bits.deBruijn64tab", "math/bits.divideError", "math/bits.overflowError"], apart := false, laid := [("math/bits.deBruijn64tab", laid_math_bits_deBruijn64tab)] }
def TurnPeriodSaid : Prop := turnPeriodRow.holds Tryz.pinned (OpenSpec.ofChange turnPeriodSpec)

/-- ITS FALSE NEIGHBOUR: 'it returns false'. Refute it at one input. -/
def turnPeriodWrong : ChangeSpec := { name := "turnPeriod", fn := fun _ => fun
  | [d1, d2, d3] => { results := [.lit (.bool false)], args := [d1, d2, d3] }
  | _ => none }
def TurnPeriodWrongFalsely : Prop := turnPeriodRow.holds Tryz.pinned (OpenSpec.ofChange turnPeriodWrong)

/-- 'gnomonlaw18.ZivLadders': WHATEVER THE INPUT: true; the input reads as it did. -/
def zivLaddersSpec : ChangeSpec := { name := "zivLadders", fn := fun _ => fun
  | [d1, d2, d3] => { results := [.lit (.bool true)], args := [d1, d2, d3] }
  | _ => none }
def zivLaddersRow : OpenClaim := { program := "ytplagoepbghhpaagreatdoor", sum := "2c777a84e22583643cddff793b182b71a946a9025fd6ab5cb4b63d745657293d", func := "gnomon/gnomonlaw18.ZivLadders", spec := "zivLadders", inPlace := ["math/bits.Add64", "math/bits.Sub64"], unfollowed := true, recurses := true, named := ["math/bits.deBruijn64tab", "math/bits.divideError", "math/bits.overflowError"], apart := false, laid := [("math/bits.deBruijn64tab", laid_math_bits_deBruijn64tab)] }
def ZivLaddersSaid : Prop := zivLaddersRow.holds Tryz.pinned (OpenSpec.ofChange zivLaddersSpec)

/-- ITS FALSE NEIGHBOUR: 'it returns false'. Refute it at one input. -/
def zivLaddersWrong : ChangeSpec := { name := "zivLadders", fn := fun _ => fun
  | [d1, d2, d3] => { results := [.lit (.bool false)], args := [d1, d2, d3] }
  | _ => none }
def ZivLaddersWrongFalsely : Prop := zivLaddersRow.holds Tryz.pinned (OpenSpec.ofChange zivLaddersWrong)

/-- 'gnomonlaw18.ZivFixed': WHATEVER THE INPUT: true; the input reads as it did. -/
def zivFixedSpec : ChangeSpec := { name := "zivFixed", fn := fun _ => fun
  | [] => { results := [.lit (.bool true)], args := [] }
  | _ => none }
def zivFixedRow : OpenClaim := { program := "ytplagoepbghhpaagreatdoor", sum := "2c777a84e22583643cddff793b182b71a946a9025fd6ab5cb4b63d745657293d", func := "gnomon/gnomonlaw18.ZivFixed", spec := "zivFixed", inPlace := ["math/bits.Add64", "math/bits.Sub64"], unfollowed := true, recurses := true, named := ["math/bits.deBruijn64tab", "math/bits.divideError", "math/bits.overflowError"], apart := false, laid := [("math/bits.deBruijn64tab", laid_math_bits_deBruijn64tab)] }
def ZivFixedSaid : Prop := zivFixedRow.holds Tryz.pinned (OpenSpec.ofChange zivFixedSpec)

/-- ITS FALSE NEIGHBOUR: 'it returns false'. Refute it at one input. -/
def zivFixedWrong : ChangeSpec := { name := "zivFixed", fn := fun _ => fun
  | [] => { results := [.lit (.bool false)], args := [] }
  | _ => none }
def ZivFixedWrongFalsely : Prop := zivFixedRow.holds Tryz.pinned (OpenSpec.ofChange zivFixedWrong)

/-- 'gnomonlaw18.ZivOdd': WHATEVER THE INPUT: true; the input reads as it did. -/
def zivOddSpec : ChangeSpec := { name := "zivOdd", fn := fun _ => fun
  | [d1, d2, d3] => { results := [.lit (.bool true)], args := [d1, d2, d3] }
  | _ => none }
def zivOddRow : OpenClaim := { program := "ytplagoepbghhpaagreatdoor", sum := "2c777a84e22583643cddff793b182b71a946a9025fd6ab5cb4b63d745657293d", func := "gnomon/gnomonlaw18.ZivOdd", spec := "zivOdd", inPlace := ["math/bits.Add64", "math/bits.Sub64"], unfollowed := true, recurses := true, named := ["math/bits.deBruijn64tab", "math/bits.divideError", "math/bits.overflowError"], apart := false, laid := [("math/bits.deBruijn64tab", laid_math_bits_deBruijn64tab)] }
def ZivOddSaid : Prop := zivOddRow.holds Tryz.pinned (OpenSpec.ofChange zivOddSpec)

/-- ITS FALSE NEIGHBOUR: 'it returns false'. Refute it at one input. -/
def zivOddWrong : ChangeSpec := { name := "zivOdd", fn := fun _ => fun
  | [d1, d2, d3] => { results := [.lit (.bool false)], args := [d1, d2, d3] }
  | _ => none }
def ZivOddWrongFalsely : Prop := zivOddRow.holds Tryz.pinned (OpenSpec.ofChange zivOddWrong)

/-- 'gnomonlaw18.ZivNarrows': WHATEVER THE INPUT: true; the input reads as it did. -/
def zivNarrowsSpec : ChangeSpec := { name := "zivNarrows", fn := fun _ => fun
  | [d1, d2] => { results := [.lit (.bool true)], args := [d1, d2] }
  | _ => none }
def zivNarrowsRow : OpenClaim := { program := "ytplagoepbghhpaagreatdoor", sum := "2c777a84e22583643cddff793b182b71a946a9025fd6ab5cb4b63d745657293d", func := "gnomon/gnomonlaw18.ZivNarrows", spec := "zivNarrows", inPlace := ["math/bits.Add64", "math/bits.Sub64"], unfollowed := true, recurses := true, named := ["math/bits.deBruijn64tab", "math/bits.divideError", "math/bits.overflowError"], apart := false, laid := [("math/bits.deBruijn64tab", laid_math_bits_deBruijn64tab)] }
def ZivNarrowsSaid : Prop := zivNarrowsRow.holds Tryz.pinned (OpenSpec.ofChange zivNarrowsSpec)

/-- ITS FALSE NEIGHBOUR: 'it returns false'. Refute it at one input. -/
def zivNarrowsWrong : ChangeSpec := { name := "zivNarrows", fn := fun _ => fun
  | [d1, d2] => { results := [.lit (.bool false)], args := [d1, d2] }
  | _ => none }
def ZivNarrowsWrongFalsely : Prop := zivNarrowsRow.holds Tryz.pinned (OpenSpec.ofChange zivNarrowsWrong)

/-- 'gnomonlaw18.ZivRises': WHATEVER THE INPUT: true; the input reads as it did. -/
def zivRisesSpec : ChangeSpec := { name := "zivRises", fn := fun _ => fun
  | [d1, d2, d3, d4] => { results := [.lit (.bool true)], args := [d1, d2, d3, d4] }
  | _ => none }
def zivRisesRow : OpenClaim := { program := "ytplagoepbghhpaagreatdoor", sum := "2c777a84e22583643cddff793b182b71a946a9025fd6ab5cb4b63d745657293d", func := "gnomon/gnomonlaw18.ZivRises", spec := "zivRises", inPlace := ["math/bits.Add64", "math/bits.Sub64"], unfollowed := true, recurses := true, named := ["math/bits.deBruijn64tab", "math/bits.divideError", "math/bits.overflowError"], apart := false, laid := [("math/bits.deBruijn64tab", laid_math_bits_deBruijn64tab)] }
def ZivRisesSaid : Prop := zivRisesRow.holds Tryz.pinned (OpenSpec.ofChange zivRisesSpec)

/-- ITS FALSE NEIGHBOUR: 'it returns false'. Refute it at one input. -/
def zivRisesWrong : ChangeSpec := { name := "zivRises", fn := fun _ => fun
  | [d1, d2, d3, d4] => { results := [.lit (.bool false)], args := [d1, d2, d3, d4] }
  | _ => none }
def ZivRisesWrongFalsely : Prop := zivRisesRow.holds Tryz.pinned (OpenSpec.ofChange zivRisesWrong)

/-- 'gnomonlaw18.ZivTurns': WHATEVER THE INPUT: true; the input reads as it did. -/
def zivTurnsSpec : ChangeSpec := { name := "zivTurns", fn := fun _ => fun
  | [d1, d2, d3] => { results := [.lit (.bool true)], args := [d1, d2, d3] }
  | _ => none }
def zivTurnsRow : OpenClaim := { program := "ytplagoepbghhpaagreatdoor", sum := "2c777a84e22583643cddff793b182b71a946a9025fd6ab5cb4b63d745657293d", func := "gnomon/gnomonlaw18.ZivTurns", spec := "zivTurns", inPlace := ["math/bits.Add64", "math/bits.Sub64"], unfollowed := true, recurses := true, named := ["math/bits.deBruijn64tab", "math/bits.divideError", "math/bits.overflowError"], apart := false, laid := [("math/bits.deBruijn64tab", laid_math_bits_deBruijn64tab)] }
def ZivTurnsSaid : Prop := zivTurnsRow.holds Tryz.pinned (OpenSpec.ofChange zivTurnsSpec)

/-- ITS FALSE NEIGHBOUR: 'it returns false'. Refute it at one input. -/
def zivTurnsWrong : ChangeSpec := { name := "zivTurns", fn := fun _ => fun
  | [d1, d2, d3] => { results := [.lit (.bool false)], args := [d1, d2, d3] }
  | _ => none }
def ZivTurnsWrongFalsely : Prop := zivTurnsRow.holds Tryz.pinned (OpenSpec.ofChange zivTurnsWrong)

/- THE SECOND FORM. 'bulk': how many values and letters a reading holds, each counted each time it is reached (what is shared counts as often as it is met; a slice's spare places count too). A statement '..UptoSaid' is the law's where the arguments, and the package variables that the reading takes, are together of bulk at most 1048576: NARROWER than '..Said'. Prove '..Said' where nothing that the law and all that it calls make is longer than what came in: it says more and counts as full. Else prove '..UptoSaid'. A law counts once. -/
mutual
def uptoBulk {H : Type} : DataW H → Nat
  | .lit (.string bytes) => bytes.length + 1
  | .lit _ => 1
  | .nil => 1
  | .ptr d => uptoBulk d + 1
  | .slice elems spare => uptoBulkAll elems + uptoBulkAll spare + 1
  | .agg parts => uptoBulkAll parts + 1
  | .iface _ d => uptoBulk d + 1
  | .map entries => uptoBulkEntries entries + 1
  | .held _ => 1
def uptoBulkAll {H : Type} : List (DataW H) → Nat
  | [] => 0
  | d :: r => uptoBulk d + uptoBulkAll r
def uptoBulkEntries {H : Type} : List (Lit × DataW H) → Nat
  | [] => 0
  | x :: r => uptoBulkEntry x + uptoBulkEntries r
def uptoBulkEntry {H : Type} : Lit × DataW H → Nat
  | (.string bytes, d) => bytes.length + uptoBulk d + 1
  | (_, d) => uptoBulk d + 1
 end
def uptoSmall : (H : Type) → List (DataW H) → Bool := fun _ ds => decide (uptoBulkAll ds ≤ 1048576)
def OpenSpec.upto (s : _root_.Go.ChangeSpec) : _root_.Go.OpenSpec := { _root_.Go.OpenSpec.ofChange s with cond := some uptoSmall }

/-- 'gnomonlaw17.TurnPeriod', WHERE WHAT IT READS IS OF BULK AT MOST 1048576: true; the input reads as it did. -/
def turnPeriodUptoRow : OpenClaim := { program := "ytplagoepbghhpaagreatdoor", sum := "2c777a84e22583643cddff793b182b71a946a9025fd6ab5cb4b63d745657293d", func := "gnomon/gnomonlaw17.TurnPeriod", spec := "turnPeriod", inPlace := ["math/bits.Add64", "math/bits.Sub64"], unfollowed := true, recurses := true, named := ["math/bits.deBruijn64tab", "math/bits.divideError", "math/bits.overflowError"], apart := false, laid := [("math/bits.deBruijn64tab", laid_math_bits_deBruijn64tab)], narrowed := true }
def TurnPeriodUptoSaid : Prop := turnPeriodUptoRow.holds Tryz.pinned (OpenSpec.upto turnPeriodSpec)

/-- 'gnomonlaw18.ZivLadders', WHERE WHAT IT READS IS OF BULK AT MOST 1048576: true; the input reads as it did. -/
def zivLaddersUptoRow : OpenClaim := { program := "ytplagoepbghhpaagreatdoor", sum := "2c777a84e22583643cddff793b182b71a946a9025fd6ab5cb4b63d745657293d", func := "gnomon/gnomonlaw18.ZivLadders", spec := "zivLadders", inPlace := ["math/bits.Add64", "math/bits.Sub64"], unfollowed := true, recurses := true, named := ["math/bits.deBruijn64tab", "math/bits.divideError", "math/bits.overflowError"], apart := false, laid := [("math/bits.deBruijn64tab", laid_math_bits_deBruijn64tab)], narrowed := true }
def ZivLaddersUptoSaid : Prop := zivLaddersUptoRow.holds Tryz.pinned (OpenSpec.upto zivLaddersSpec)

/-- 'gnomonlaw18.ZivFixed', WHERE WHAT IT READS IS OF BULK AT MOST 1048576: true; the input reads as it did. -/
def zivFixedUptoRow : OpenClaim := { program := "ytplagoepbghhpaagreatdoor", sum := "2c777a84e22583643cddff793b182b71a946a9025fd6ab5cb4b63d745657293d", func := "gnomon/gnomonlaw18.ZivFixed", spec := "zivFixed", inPlace := ["math/bits.Add64", "math/bits.Sub64"], unfollowed := true, recurses := true, named := ["math/bits.deBruijn64tab", "math/bits.divideError", "math/bits.overflowError"], apart := false, laid := [("math/bits.deBruijn64tab", laid_math_bits_deBruijn64tab)], narrowed := true }
def ZivFixedUptoSaid : Prop := zivFixedUptoRow.holds Tryz.pinned (OpenSpec.upto zivFixedSpec)

/-- 'gnomonlaw18.ZivOdd', WHERE WHAT IT READS IS OF BULK AT MOST 1048576: true; the input reads as it did. -/
def zivOddUptoRow : OpenClaim := { program := "ytplagoepbghhpaagreatdoor", sum := "2c777a84e22583643cddff793b182b71a946a9025fd6ab5cb4b63d745657293d", func := "gnomon/gnomonlaw18.ZivOdd", spec := "zivOdd", inPlace := ["math/bits.Add64", "math/bits.Sub64"], unfollowed := true, recurses := true, named := ["math/bits.deBruijn64tab", "math/bits.divideError", "math/bits.overflowError"], apart := false, laid := [("math/bits.deBruijn64tab", laid_math_bits_deBruijn64tab)], narrowed := true }
def ZivOddUptoSaid : Prop := zivOddUptoRow.holds Tryz.pinned (OpenSpec.upto zivOddSpec)

/-- 'gnomonlaw18.ZivNarrows', WHERE WHAT IT READS IS OF BULK AT MOST 1048576: true; the input reads as it did. -/
def zivNarrowsUptoRow : OpenClaim := { program := "ytplagoepbghhpaagreatdoor", sum := "2c777a84e22583643cddff793b182b71a946a9025fd6ab5cb4b63d745657293d", func := "gnomon/gnomonlaw18.ZivNarrows", spec := "zivNarrows", inPlace := ["math/bits.Add64", "math/bits.Sub64"], unfollowed := true, recurses := true, named := ["math/bits.deBruijn64tab", "math/bits.divideError", "math/bits.overflowError"], apart := false, laid := [("math/bits.deBruijn64tab", laid_math_bits_deBruijn64tab)], narrowed := true }
def ZivNarrowsUptoSaid : Prop := zivNarrowsUptoRow.holds Tryz.pinned (OpenSpec.upto zivNarrowsSpec)

/-- 'gnomonlaw18.ZivRises', WHERE WHAT IT READS IS OF BULK AT MOST 1048576: true; the input reads as it did. -/
def zivRisesUptoRow : OpenClaim := { program := "ytplagoepbghhpaagreatdoor", sum := "2c777a84e22583643cddff793b182b71a946a9025fd6ab5cb4b63d745657293d", func := "gnomon/gnomonlaw18.ZivRises", spec := "zivRises", inPlace := ["math/bits.Add64", "math/bits.Sub64"], unfollowed := true, recurses := true, named := ["math/bits.deBruijn64tab", "math/bits.divideError", "math/bits.overflowError"], apart := false, laid := [("math/bits.deBruijn64tab", laid_math_bits_deBruijn64tab)], narrowed := true }
def ZivRisesUptoSaid : Prop := zivRisesUptoRow.holds Tryz.pinned (OpenSpec.upto zivRisesSpec)

/-- 'gnomonlaw18.ZivTurns', WHERE WHAT IT READS IS OF BULK AT MOST 1048576: true; the input reads as it did. -/
def zivTurnsUptoRow : OpenClaim := { program := "ytplagoepbghhpaagreatdoor", sum := "2c777a84e22583643cddff793b182b71a946a9025fd6ab5cb4b63d745657293d", func := "gnomon/gnomonlaw18.ZivTurns", spec := "zivTurns", inPlace := ["math/bits.Add64", "math/bits.Sub64"], unfollowed := true, recurses := true, named := ["math/bits.deBruijn64tab", "math/bits.divideError", "math/bits.overflowError"], apart := false, laid := [("math/bits.deBruijn64tab", laid_math_bits_deBruijn64tab)], narrowed := true }
def ZivTurnsUptoSaid : Prop := zivTurnsUptoRow.holds Tryz.pinned (OpenSpec.upto zivTurnsSpec)

end Rows
end Go.Proofs.YtplagoepbghhpaaGreatDoor
