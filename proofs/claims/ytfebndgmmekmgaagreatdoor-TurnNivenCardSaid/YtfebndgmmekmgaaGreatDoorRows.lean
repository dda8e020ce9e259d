/-
  NARROWER THAN 'FOR EVERY INPUT', by the rows' own cells (each row's printed sentence says how): TurnReduces: laid · TurnExacts: laid · TurnSplits: laid · TurnNiven: laid · TurnMirrors: laid.
  DERIVED. THE GIVEN ROWS OF THIS SEAT. 5 by the template 'for every input the law returns true; each argument reads behind the call as it read before'; 0 by the template 'total and deterministic' (their statements: YtfebndgmmekmgaaGreatDoorTotals.lean).
  GIVEN WITH THE SEED: the statements are not yours to turn. If you find one false, say at which input.
  Laid BY PROGRAM, IN A SANDBOX (cutbox-rows.mjs): the forced cells as the released guide's own fill.sh prints them over the translation eaa69574f4a56de0… (all of the seat's roots in one cut). By AI agents, Wed Nov 11 2026. No macro, syntax, notation, axiom, sorry.
-/
import Derived.Test.YtfebndgmmekmgaaGreatDoorChecked
import GoSem.Claim
import GoSem.ClaimJoined
import GoSem.ClaimMapViews
import Derived.JoinedTies
import Derived.KernelRfl
namespace Go.Proofs.YtfebndgmmekmgaaGreatDoor
/- THE CELL 'sum', in the pinned program and in every row, IS THE sha256 OF THE DUMP (.gsa) THAT YtfebndgmmekmgaaGreatDoorProg.lean LOADS. Nothing in Lean hashes anything: it is a label: what it is worth is what the hold of that sum in a sandbox is worth. -/
noncomputable def Tryz.pinned : Pinned := { name := "ytfebndgmmekmgaagreatdoor", sum := "eaa69574f4a56de0a97ae70e2551251affb0cf78a5022d6cc9c2536590c76fe9", checked := Tryz.checked }
namespace Rows
def none {H : Type} : Left H := { results := [], args := [] }

/- WHAT THE LISTED PACKAGE-LEVEL VARIABLES READ AS WHEN THE CALL BEGINS. Each datum BY PROGRAM (the guide's laid-datum.mjs) off the statement by which the dump's own 'gosem.cut.vars' lays the variable. In a bare row this is a premise. The card (YtfebndgmmekmgaaGreatDoorCards.lean) ties it to the program's text. -/
def laid_math_bits_deBruijn64tab {H : Type} : DataW H := .agg [.lit (.int .u8 0), .lit (.int .u8 1), .lit (.int .u8 56), .lit (.int .u8 2), .lit (.int .u8 57), .lit (.int .u8 49), .lit (.int .u8 28), .lit (.int .u8 3), .lit (.int .u8 61), .lit (.int .u8 58), .lit (.int .u8 42), .lit (.int .u8 50), .lit (.int .u8 38), .lit (.int .u8 29), .lit (.int .u8 17), .lit (.int .u8 4), .lit (.int .u8 62), .lit (.int .u8 47), .lit (.int .u8 59), .lit (.int .u8 36), .lit (.int .u8 45), .lit (.int .u8 43), .lit (.int .u8 51), .lit (.int .u8 22), .lit (.int .u8 53), .lit (.int .u8 39), .lit (.int .u8 33), .lit (.int .u8 30), .lit (.int .u8 24), .lit (.int .u8 18), .lit (.int .u8 12), .lit (.int .u8 5), .lit (.int .u8 63), .lit (.int .u8 55), .lit (.int .u8 48), .lit (.int .u8 27), .lit (.int .u8 60), .lit (.int .u8 41), .lit (.int .u8 37), .lit (.int .u8 16), .lit (.int .u8 46), .lit (.int .u8 35), .lit (.int .u8 44), .lit (.int .u8 21), .lit (.int .u8 52), .lit (.int .u8 32), .lit (.int .u8 23), .lit (.int .u8 11), .lit (.int .u8 54), .lit (.int .u8 26), .lit (.int .u8 40), .lit (.int .u8 15), .lit (.int .u8 34), .lit (.int .u8 20), .lit (.int .u8 31), .lit (.int .u8 10), .lit (.int .u8 25), .lit (.int .u8 14), .lit (.int .u8 19), .lit (.int .u8 9), .lit (.int .u8 13), .lit (.int .u8 8), .lit (.int .u8 7), .lit (.int .u8 6)]

/-- 'gnomonlaw17.TurnReduces': WHATEVER THE INPUT: true; the input reads as it did. -/
def turnReducesSpec : ChangeSpec := { name := "turnReduces", fn := fun _ => fun
  | [d] => { results := [.lit (.bool true)], args := [d] }
  | _ => none }
def turnReducesRow : OpenClaim := { program := "ytfebndgmmekmgaagreatdoor", sum := "eaa69574f4a56de0a97ae70e2551251affb0cf78a5022d6cc9c2536590c76fe9", func := "gnomon/gnomonlaw17.TurnReduces", spec := "turnReduces", inPlace := ["math/bits.Add64", "math/bits.Sub64"], unfollowed := true, recurses := true, named := ["math/bits.deBruijn64tab", "math/bits.divideError", "math/bits.overflowError"], apart := false, laid := [("math/bits.deBruijn64tab", laid_math_bits_deBruijn64tab)] }
def TurnReducesSaid : Prop := turnReducesRow.holds Tryz.pinned (OpenSpec.ofChange turnReducesSpec)

/-- ITS FALSE NEIGHBOUR: 'it returns false'. Refute it at one input. -/
def turnReducesWrong : ChangeSpec := { name := "turnReduces", fn := fun _ => fun
  | [d] => { results := [.lit (.bool false)], args := [d] }
  | _ => none }
def TurnReducesWrongFalsely : Prop := turnReducesRow.holds Tryz.pinned (OpenSpec.ofChange turnReducesWrong)

/-- 'gnomonlaw17.TurnExacts': WHATEVER THE INPUT: true; the input reads as it did. -/
def turnExactsSpec : ChangeSpec := { name := "turnExacts", fn := fun _ => fun
  | [d] => { results := [.lit (.bool true)], args := [d] }
  | _ => none }
def turnExactsRow : OpenClaim := { program := "ytfebndgmmekmgaagreatdoor", sum := "eaa69574f4a56de0a97ae70e2551251affb0cf78a5022d6cc9c2536590c76fe9", func := "gnomon/gnomonlaw17.TurnExacts", spec := "turnExacts", inPlace := ["math/bits.Add64", "math/bits.Sub64"], unfollowed := true, recurses := true, named := ["math/bits.deBruijn64tab", "math/bits.divideError", "math/bits.overflowError"], apart := false, laid := [("math/bits.deBruijn64tab", laid_math_bits_deBruijn64tab)] }
def TurnExactsSaid : Prop := turnExactsRow.holds Tryz.pinned (OpenSpec.ofChange turnExactsSpec)

/-- ITS FALSE NEIGHBOUR: 'it returns false'. Refute it at one input. -/
def turnExactsWrong : ChangeSpec := { name := "turnExacts", fn := fun _ => fun
  | [d] => { results := [.lit (.bool false)], args := [d] }
  | _ => none }
def TurnExactsWrongFalsely : Prop := turnExactsRow.holds Tryz.pinned (OpenSpec.ofChange turnExactsWrong)

/-- 'gnomonlaw17.TurnSplits': WHATEVER THE INPUT: true; the input reads as it did. -/
def turnSplitsSpec : ChangeSpec := { name := "turnSplits", fn := fun _ => fun
  | [d] => { results := [.lit (.bool true)], args := [d] }
  | _ => none }
def turnSplitsRow : OpenClaim := { program := "ytfebndgmmekmgaagreatdoor", sum := "eaa69574f4a56de0a97ae70e2551251affb0cf78a5022d6cc9c2536590c76fe9", func := "gnomon/gnomonlaw17.TurnSplits", spec := "turnSplits", inPlace := ["math/bits.Add64", "math/bits.Sub64"], unfollowed := true, recurses := true, named := ["math/bits.deBruijn64tab", "math/bits.divideError", "math/bits.overflowError"], apart := false, laid := [("math/bits.deBruijn64tab", laid_math_bits_deBruijn64tab)] }
def TurnSplitsSaid : Prop := turnSplitsRow.holds Tryz.pinned (OpenSpec.ofChange turnSplitsSpec)

/-- ITS FALSE NEIGHBOUR: 'it returns false'. Refute it at one input. -/
def turnSplitsWrong : ChangeSpec := { name := "turnSplits", fn := fun _ => fun
  | [d] => { results := [.lit (.bool false)], args := [d] }
  | _ => none }
def TurnSplitsWrongFalsely : Prop := turnSplitsRow.holds Tryz.pinned (OpenSpec.ofChange turnSplitsWrong)

/-- 'gnomonlaw17.TurnNiven': WHATEVER THE INPUT: true; the input reads as it did. -/
def turnNivenSpec : ChangeSpec := { name := "turnNiven", fn := fun _ => fun
  | [d1, d2] => { results := [.lit (.bool true)], args := [d1, d2] }
  | _ => none }
def turnNivenRow : OpenClaim := { program := "ytfebndgmmekmgaagreatdoor", sum := "eaa69574f4a56de0a97ae70e2551251affb0cf78a5022d6cc9c2536590c76fe9", func := "gnomon/gnomonlaw17.TurnNiven", spec := "turnNiven", inPlace := ["math/bits.Add64", "math/bits.Sub64"], unfollowed := true, recurses := true, named := ["math/bits.deBruijn64tab", "math/bits.divideError", "math/bits.overflowError"], apart := false, laid := [("math/bits.deBruijn64tab", laid_math_bits_deBruijn64tab)] }
def TurnNivenSaid : Prop := turnNivenRow.holds Tryz.pinned (OpenSpec.ofChange turnNivenSpec)

/-- ITS FALSE NEIGHBOUR: 'it returns false'. Refute it at one input. -/
def turnNivenWrong : ChangeSpec := { name := "turnNiven", fn := fun _ => fun
  | [d1, d2] => { results := [.lit (.bool false)], args := [d1, d2] }
  | _ => none }
def TurnNivenWrongFalsely : Prop := turnNivenRow.holds Tryz.pinned (OpenSpec.ofChange turnNivenWrong)

/-- 'gnomonlaw17.TurnMirrors': WHATEVER THE INPUT: true; the input reads as it did. -/
def turnMirrorsSpec : ChangeSpec := { name := "turnMirrors", fn := fun _ => fun
  | [d1, d2, d3] => { results := [.lit (.bool true)], args := [d1, d2, d3] }
  | _ => none }
def turnMirrorsRow : OpenClaim := { program := "ytfebndgmmekmgaagreatdoor", sum := "eaa69574f4a56de0a97ae70e2551251affb0cf78a5022d6cc9c2536590c76fe9", func := "gnomon/gnomonlaw17.TurnMirrors", spec := "turnMirrors", inPlace := ["math/bits.Add64", "math/bits.Sub64"], unfollowed := true, recurses := true, named := ["math/bits.deBruijn64tab", "math/bits.divideError", "math/bits.overflowError"], apart := false, laid := [("math/bits.deBruijn64tab", laid_math_bits_deBruijn64tab)] }
def TurnMirrorsSaid : Prop := turnMirrorsRow.holds Tryz.pinned (OpenSpec.ofChange turnMirrorsSpec)

/-- ITS FALSE NEIGHBOUR: 'it returns false'. Refute it at one input. -/
def turnMirrorsWrong : ChangeSpec := { name := "turnMirrors", fn := fun _ => fun
  | [d1, d2, d3] => { results := [.lit (.bool false)], args := [d1, d2, d3] }
  | _ => none }
def TurnMirrorsWrongFalsely : Prop := turnMirrorsRow.holds Tryz.pinned (OpenSpec.ofChange turnMirrorsWrong)

/- THE SECOND FORM. 'bulk': how many values and letters a reading holds, each counted each time it is reached (what is shared counts as often as it is met; a slice's spare places count too). A statement '..UptoSaid' is the law's where the arguments, and the package variables that the reading takes, are together of bulk at most 1048576: NARROWER than '..Said'. Prove '..Said' where nothing that the law and all that it calls make is longer than what came in: it says more and counts as full. Else prove '..UptoSaid'. A law counts once. -/
mutual
def uptoBulk {H : Type} : DataW H → Nat
  | .lit (.string bytes) => bytes.length + 1
  | .lit _ => 1
  | .nil => 1
  | .ptr d => uptoBulk d + 1
  | .slice elems spare => uptoBulkAll elems + uptoBulkAll spare + 1
  | .agg parts => uptoBulkAll parts + 1
  | .iface _ d => uptoBulk d + 1
  | .map entries => uptoBulkEntries entries + 1
  | .held _ => 1
def uptoBulkAll {H : Type} : List (DataW H) → Nat
  | [] => 0
  | d :: r => uptoBulk d + uptoBulkAll r
def uptoBulkEntries {H : Type} : List (Lit × DataW H) → Nat
  | [] => 0
  | x :: r => uptoBulkEntry x + uptoBulkEntries r
def uptoBulkEntry {H : Type} : Lit × DataW H → Nat
  | (.string bytes, d) => bytes.length + uptoBulk d + 1
  | (_, d) => uptoBulk d + 1
 end
def uptoSmall : (H : Type) → List (DataW H) → Bool := fun _ ds => decide (uptoBulkAll ds ≤ 1048576)
def OpenSpec.upto (s : _root_.Go.ChangeSpec) : _root_.Go.OpenSpec := { _root_.Go.OpenSpec.ofChange s with cond := some uptoSmall }

/-- 'gnomonlaw17.TurnReduces', WHERE WHAT IT READS IS OF BULK AT MOST 1048576: true; the input reads as it did. -/
def turnReducesUptoRow : OpenClaim := { program := "ytfebndgmmekmgaagreatdoor", sum := "eaa69574f4a56de0a97ae70e2551251affb0cf78a5022d6cc9c2536590c76fe9", func := "gnomon/gnomonlaw17.TurnReduces", spec := "turnReduces", inPlace := ["math/bits.Add64", "math/bits.Sub64"], unfollowed := true, recurses := true, named := ["math/bits.deBruijn64tab", "math/bits.divideError", "math/bits.overflowError"], apart := false, laid := [("math/bits.deBruijn64tab", laid_math_bits_deBruijn64tab)], narrowed := true }
def TurnReducesUptoSaid : Prop := turnReducesUptoRow.holds Tryz.pinned (OpenSpec.upto turnReducesSpec)

/-- 'gnomonlaw17.TurnExacts', WHERE WHAT IT READS IS OF BULK AT MOST 1048576: true; the input reads as it did. -/
def turnExactsUptoRow : OpenClaim := { program := "ytfebndgmmekmgaagreatdoor", sum := "eaa69574f4a56de0a97ae70e2551251affb0cf78a5022d6cc9c2536590c76fe9", func := "gnomon/gnomonlaw17.TurnExacts", spec := "turnExacts", inPlace := ["math/bits.Add64", "math/bits.Sub64"], unfollowed := true, recurses := true, named := ["math/bits.deBruijn64tab", "math/bits.divideError", "math/bits.overflowError"], apart := false, laid := [("math/bits.deBruijn64tab", laid_math_bits_deBruijn64tab)], narrowed := true }
def TurnExactsUptoSaid : Prop := turnExactsUptoRow.holds Tryz.pinned (OpenSpec.upto turnExactsSpec)

/-- 'gnomonlaw17.TurnSplits', WHERE WHAT IT READS IS OF BULK AT MOST 1048576: true; the input reads as it did. -/
def turnSplitsUptoRow : OpenClaim := { program := "ytfebndgmmekmgaagreatdoor", sum := "eaa69574f4a56de0a97ae70e2551251affb0cf78a5022d6cc9c2536590c76fe9", func := "gnomon/gnomonlaw17.TurnSplits", spec := "turnSplits", inPlace := ["math/bits.Add64", "math/bits.Sub64"], unfollowed := true, recurses := true, named := ["math/bits.deBruijn64tab", "math/bits.divideError", "math/bits.overflowError"], apart := false, laid := [("math/bits.deBruijn64tab", laid_math_bits_deBruijn64tab)], narrowed := true }
def TurnSplitsUptoSaid : Prop := turnSplitsUptoRow.holds Tryz.pinned (OpenSpec.upto turnSplitsSpec)

/-- 'gnomonlaw17.TurnNiven', WHERE WHAT IT READS IS OF BULK AT MOST 1048576: true; the input reads as it did. -/
def turnNivenUptoRow : OpenClaim := { program := "ytfebndgmmekmgaagreatdoor", sum := "eaa69574f4a56de0a97ae70e2551251affb0cf78a5022d6cc9c2536590c76fe9", func := "gnomon/gnomonlaw17.TurnNiven", spec := "turnNiven", inPlace := ["math/bits.Add64", "math/bits.Sub64"], unfollowed := true, recurses := true, named := ["math/bits.deBruijn64tab", "math/bits.divideError", "math/bits.overflowError"], apart := false, laid := [("math/bits.deBruijn64tab", laid_math_bits_deBruijn64tab)], narrowed := true }
def TurnNivenUptoSaid : Prop := turnNivenUptoRow.holds Tryz.pinned (OpenSpec.upto turnNivenSpec)

/-- 'gnomonlaw17.TurnMirrors', WHERE WHAT IT READS IS OF BULK AT MOST 1048576: true; the input reads as it did. -/
def turnMirrorsUptoRow : OpenClaim := { program := "ytfebndgmmekmgaagreatdoor", sum := "eaa69574f4a56de0a97ae70e2551251affb0cf78a5022d6cc9c2536590c76fe9", func := "gnomon/gnomonlaw17.TurnMirrors", spec := "turnMirrors", inPlace := ["math/bits.Add64", "math/bits.Sub64"], unfollowed := true, recurses := true, named := ["math/bits.deBruijn64tab", "math/bits.divideError", "math/bits.overflowError"], apart := false, laid := [("math/bits.deBruijn64tab", laid_math_bits_deBruijn64tab)], narrowed := true }
def TurnMirrorsUptoSaid : Prop := turnMirrorsUptoRow.holds Tryz.pinned (OpenSpec.upto turnMirrorsSpec)

end Rows
end Go.Proofs.YtfebndgmmekmgaaGreatDoor
