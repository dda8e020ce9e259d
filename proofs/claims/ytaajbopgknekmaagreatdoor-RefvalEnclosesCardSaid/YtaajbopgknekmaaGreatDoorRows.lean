/-
  NARROWER THAN 'FOR EVERY INPUT', by the rows' own cells (each row's printed sentence says how): RefvalSigns: laid · RefvalEncloses: laid · RefvalAll: laid · RefvalKeeps: laid · RefvalMeets: laid · RefvalMirrors: laid · RefvalTangent: laid · RefvalCircle: laid.
  DERIVED. THE GIVEN ROWS OF THIS SEAT. 8 by the template 'for every input the law returns true; each argument reads behind the call as it read before'; 0 by the template 'total and deterministic' (their statements: YtaajbopgknekmaaGreatDoorTotals.lean).
  GIVEN WITH THE SEED: the statements are not yours to turn. If you find one false, say at which input.
  Laid BY PROGRAM, IN A SANDBOX (cutbox-rows.mjs): the forced cells as the released guide's own fill.sh prints them over the translation 9d7f1ce5b2e9bcda… (all of the seat's roots in one cut). By AI agents, Wed Nov 11 2026. No macro, syntax, notation, axiom, sorry.
-/
import Derived.Test.YtaajbopgknekmaaGreatDoorChecked
import GoSem.Claim
import GoSem.ClaimJoined
import GoSem.ClaimMapViews
import Derived.JoinedTies
import Derived.KernelRfl
namespace Go.Proofs.YtaajbopgknekmaaGreatDoor
/- THE CELL 'sum', in the pinned program and in every row, IS THE sha256 OF THE DUMP (.gsa) THAT YtaajbopgknekmaaGreatDoorProg.lean LOADS. Nothing in Lean hashes anything: it is a label: what it is worth is what the hold of that sum in a sandbox is worth. -/
noncomputable def Tryz.pinned : Pinned := { name := "ytaajbopgknekmaagreatdoor", sum := "9d7f1ce5b2e9bcda34512adbf2f46acde687611cad11595389e172cf62967a59", checked := Tryz.checked }
namespace Rows
def none {H : Type} : Left H := { results := [], args := [] }

/- WHAT THE LISTED PACKAGE-LEVEL VARIABLES READ AS WHEN THE CALL BEGINS. Each datum BY PROGRAM (the guide's laid-datum.mjs) off the statement by which the dump's own 'gosem.cut.vars' lays the variable. In a bare row this is a premise. The card (YtaajbopgknekmaaGreatDoorCards.lean) ties it to the program's text. -/
def laid_math_bits_deBruijn64tab {H : Type} : DataW H := .agg [.lit (.int .u8 0), .lit (.int .u8 1), .lit (.int .u8 56), .lit (.int .u8 2), .lit (.int .u8 57), .lit (.int .u8 49), .lit (.int .u8 28), .lit (.int .u8 3), .lit (.int .u8 61), .lit (.int .u8 58), .lit (.int .u8 42), .lit (.int .u8 50), .lit (.int .u8 38), .lit (.int .u8 29), .lit (.int .u8 17), .lit (.int .u8 4), .lit (.int .u8 62), .lit (.int .u8 47), .lit (.int .u8 59), .lit (.int .u8 36), .lit (.int .u8 45), .lit (.int .u8 43), .lit (.int .u8 51), .lit (.int .u8 22), .lit (.int .u8 53), .lit (.int .u8 39), .lit (.int .u8 33), .lit (.int .u8 30), .lit (.int .u8 24), .lit (.int .u8 18), .lit (.int .u8 12), .lit (.int .u8 5), .lit (.int .u8 63), .lit (.int .u8 55), .lit (.int .u8 48), .lit (.int .u8 27), .lit (.int .u8 60), .lit (.int .u8 41), .lit (.int .u8 37), .lit (.int .u8 16), .lit (.int .u8 46), .lit (.int .u8 35), .lit (.int .u8 44), .lit (.int .u8 21), .lit (.int .u8 52), .lit (.int .u8 32), .lit (.int .u8 23), .lit (.int .u8 11), .lit (.int .u8 54), .lit (.int .u8 26), .lit (.int .u8 40), .lit (.int .u8 15), .lit (.int .u8 34), .lit (.int .u8 20), .lit (.int .u8 31), .lit (.int .u8 10), .lit (.int .u8 25), .lit (.int .u8 14), .lit (.int .u8 19), .lit (.int .u8 9), .lit (.int .u8 13), .lit (.int .u8 8), .lit (.int .u8 7), .lit (.int .u8 6)]

/-- 'gnomonlaw16.RefvalSigns': WHATEVER THE INPUT: true; the input reads as it did. -/
def refvalSignsSpec : ChangeSpec := { name := "refvalSigns", fn := fun _ => fun
  | [d1, d2] => { results := [.lit (.bool true)], args := [d1, d2] }
  | _ => none }
def refvalSignsRow : OpenClaim := { program := "ytaajbopgknekmaagreatdoor", sum := "9d7f1ce5b2e9bcda34512adbf2f46acde687611cad11595389e172cf62967a59", func := "gnomon/gnomonlaw16.RefvalSigns", spec := "refvalSigns", inPlace := ["math/bits.Add64", "math/bits.Sub64"], recurses := true, named := ["math/bits.deBruijn64tab", "math/bits.divideError", "math/bits.overflowError"], apart := false, laid := [("math/bits.deBruijn64tab", laid_math_bits_deBruijn64tab)] }
def RefvalSignsSaid : Prop := refvalSignsRow.holds Tryz.pinned (OpenSpec.ofChange refvalSignsSpec)

/-- ITS FALSE NEIGHBOUR: 'it returns false'. Refute it at one input. -/
def refvalSignsWrong : ChangeSpec := { name := "refvalSigns", fn := fun _ => fun
  | [d1, d2] => { results := [.lit (.bool false)], args := [d1, d2] }
  | _ => none }
def RefvalSignsWrongFalsely : Prop := refvalSignsRow.holds Tryz.pinned (OpenSpec.ofChange refvalSignsWrong)

/-- 'gnomonlaw16.RefvalEncloses': WHATEVER THE INPUT: true; the input reads as it did. -/
def refvalEnclosesSpec : ChangeSpec := { name := "refvalEncloses", fn := fun _ => fun
  | [d1, d2, d3] => { results := [.lit (.bool true)], args := [d1, d2, d3] }
  | _ => none }
def refvalEnclosesRow : OpenClaim := { program := "ytaajbopgknekmaagreatdoor", sum := "9d7f1ce5b2e9bcda34512adbf2f46acde687611cad11595389e172cf62967a59", func := "gnomon/gnomonlaw16.RefvalEncloses", spec := "refvalEncloses", inPlace := ["math/bits.Add64", "math/bits.Sub64"], recurses := true, named := ["math/bits.deBruijn64tab", "math/bits.divideError", "math/bits.overflowError"], apart := false, laid := [("math/bits.deBruijn64tab", laid_math_bits_deBruijn64tab)] }
def RefvalEnclosesSaid : Prop := refvalEnclosesRow.holds Tryz.pinned (OpenSpec.ofChange refvalEnclosesSpec)

/-- ITS FALSE NEIGHBOUR: 'it returns false'. Refute it at one input. -/
def refvalEnclosesWrong : ChangeSpec := { name := "refvalEncloses", fn := fun _ => fun
  | [d1, d2, d3] => { results := [.lit (.bool false)], args := [d1, d2, d3] }
  | _ => none }
def RefvalEnclosesWrongFalsely : Prop := refvalEnclosesRow.holds Tryz.pinned (OpenSpec.ofChange refvalEnclosesWrong)

/-- 'gnomonlaw16.RefvalAll': WHATEVER THE INPUT: true; the input reads as it did. -/
def refvalAllSpec : ChangeSpec := { name := "refvalAll", fn := fun _ => fun
  | [d] => { results := [.lit (.bool true)], args := [d] }
  | _ => none }
def refvalAllRow : OpenClaim := { program := "ytaajbopgknekmaagreatdoor", sum := "9d7f1ce5b2e9bcda34512adbf2f46acde687611cad11595389e172cf62967a59", func := "gnomon/gnomonlaw16.RefvalAll", spec := "refvalAll", inPlace := ["math/bits.Add64", "math/bits.Sub64"], recurses := true, named := ["math/bits.deBruijn64tab", "math/bits.divideError", "math/bits.overflowError"], apart := false, laid := [("math/bits.deBruijn64tab", laid_math_bits_deBruijn64tab)] }
def RefvalAllSaid : Prop := refvalAllRow.holds Tryz.pinned (OpenSpec.ofChange refvalAllSpec)

/-- ITS FALSE NEIGHBOUR: 'it returns false'. Refute it at one input. -/
def refvalAllWrong : ChangeSpec := { name := "refvalAll", fn := fun _ => fun
  | [d] => { results := [.lit (.bool false)], args := [d] }
  | _ => none }
def RefvalAllWrongFalsely : Prop := refvalAllRow.holds Tryz.pinned (OpenSpec.ofChange refvalAllWrong)

/-- 'gnomonlaw16.RefvalKeeps': WHATEVER THE INPUT: true; the input reads as it did. -/
def refvalKeepsSpec : ChangeSpec := { name := "refvalKeeps", fn := fun _ => fun
  | [d1, d2, d3, d4] => { results := [.lit (.bool true)], args := [d1, d2, d3, d4] }
  | _ => none }
def refvalKeepsRow : OpenClaim := { program := "ytaajbopgknekmaagreatdoor", sum := "9d7f1ce5b2e9bcda34512adbf2f46acde687611cad11595389e172cf62967a59", func := "gnomon/gnomonlaw16.RefvalKeeps", spec := "refvalKeeps", inPlace := ["math/bits.Add64", "math/bits.Sub64"], recurses := true, named := ["math/bits.deBruijn64tab", "math/bits.divideError", "math/bits.overflowError"], apart := false, laid := [("math/bits.deBruijn64tab", laid_math_bits_deBruijn64tab)] }
def RefvalKeepsSaid : Prop := refvalKeepsRow.holds Tryz.pinned (OpenSpec.ofChange refvalKeepsSpec)

/-- ITS FALSE NEIGHBOUR: 'it returns false'. Refute it at one input. -/
def refvalKeepsWrong : ChangeSpec := { name := "refvalKeeps", fn := fun _ => fun
  | [d1, d2, d3, d4] => { results := [.lit (.bool false)], args := [d1, d2, d3, d4] }
  | _ => none }
def RefvalKeepsWrongFalsely : Prop := refvalKeepsRow.holds Tryz.pinned (OpenSpec.ofChange refvalKeepsWrong)

/-- 'gnomonlaw16.RefvalMeets': WHATEVER THE INPUT: true; the input reads as it did. -/
def refvalMeetsSpec : ChangeSpec := { name := "refvalMeets", fn := fun _ => fun
  | [d1, d2, d3, d4] => { results := [.lit (.bool true)], args := [d1, d2, d3, d4] }
  | _ => none }
def refvalMeetsRow : OpenClaim := { program := "ytaajbopgknekmaagreatdoor", sum := "9d7f1ce5b2e9bcda34512adbf2f46acde687611cad11595389e172cf62967a59", func := "gnomon/gnomonlaw16.RefvalMeets", spec := "refvalMeets", inPlace := ["math/bits.Add64", "math/bits.Sub64"], unfollowed := true, recurses := true, named := ["math/bits.deBruijn64tab", "math/bits.divideError", "math/bits.overflowError"], apart := false, laid := [("math/bits.deBruijn64tab", laid_math_bits_deBruijn64tab)] }
def RefvalMeetsSaid : Prop := refvalMeetsRow.holds Tryz.pinned (OpenSpec.ofChange refvalMeetsSpec)

/-- ITS FALSE NEIGHBOUR: 'it returns false'. Refute it at one input. -/
def refvalMeetsWrong : ChangeSpec := { name := "refvalMeets", fn := fun _ => fun
  | [d1, d2, d3, d4] => { results := [.lit (.bool false)], args := [d1, d2, d3, d4] }
  | _ => none }
def RefvalMeetsWrongFalsely : Prop := refvalMeetsRow.holds Tryz.pinned (OpenSpec.ofChange refvalMeetsWrong)

/-- 'gnomonlaw16.RefvalMirrors': WHATEVER THE INPUT: true; the input reads as it did. -/
def refvalMirrorsSpec : ChangeSpec := { name := "refvalMirrors", fn := fun _ => fun
  | [d1, d2, d3] => { results := [.lit (.bool true)], args := [d1, d2, d3] }
  | _ => none }
def refvalMirrorsRow : OpenClaim := { program := "ytaajbopgknekmaagreatdoor", sum := "9d7f1ce5b2e9bcda34512adbf2f46acde687611cad11595389e172cf62967a59", func := "gnomon/gnomonlaw16.RefvalMirrors", spec := "refvalMirrors", inPlace := ["math/bits.Add64", "math/bits.Sub64"], unfollowed := true, recurses := true, named := ["math/bits.deBruijn64tab", "math/bits.divideError", "math/bits.overflowError"], apart := false, laid := [("math/bits.deBruijn64tab", laid_math_bits_deBruijn64tab)] }
def RefvalMirrorsSaid : Prop := refvalMirrorsRow.holds Tryz.pinned (OpenSpec.ofChange refvalMirrorsSpec)

/-- ITS FALSE NEIGHBOUR: 'it returns false'. Refute it at one input. -/
def refvalMirrorsWrong : ChangeSpec := { name := "refvalMirrors", fn := fun _ => fun
  | [d1, d2, d3] => { results := [.lit (.bool false)], args := [d1, d2, d3] }
  | _ => none }
def RefvalMirrorsWrongFalsely : Prop := refvalMirrorsRow.holds Tryz.pinned (OpenSpec.ofChange refvalMirrorsWrong)

/-- 'gnomonlaw16.RefvalTangent': WHATEVER THE INPUT: true; the input reads as it did. -/
def refvalTangentSpec : ChangeSpec := { name := "refvalTangent", fn := fun _ => fun
  | [d1, d2] => { results := [.lit (.bool true)], args := [d1, d2] }
  | _ => none }
def refvalTangentRow : OpenClaim := { program := "ytaajbopgknekmaagreatdoor", sum := "9d7f1ce5b2e9bcda34512adbf2f46acde687611cad11595389e172cf62967a59", func := "gnomon/gnomonlaw16.RefvalTangent", spec := "refvalTangent", inPlace := ["math/bits.Add64", "math/bits.Sub64"], unfollowed := true, recurses := true, named := ["math/bits.deBruijn64tab", "math/bits.divideError", "math/bits.overflowError"], apart := false, laid := [("math/bits.deBruijn64tab", laid_math_bits_deBruijn64tab)] }
def RefvalTangentSaid : Prop := refvalTangentRow.holds Tryz.pinned (OpenSpec.ofChange refvalTangentSpec)

/-- ITS FALSE NEIGHBOUR: 'it returns false'. Refute it at one input. -/
def refvalTangentWrong : ChangeSpec := { name := "refvalTangent", fn := fun _ => fun
  | [d1, d2] => { results := [.lit (.bool false)], args := [d1, d2] }
  | _ => none }
def RefvalTangentWrongFalsely : Prop := refvalTangentRow.holds Tryz.pinned (OpenSpec.ofChange refvalTangentWrong)

/-- 'gnomonlaw16.RefvalCircle': WHATEVER THE INPUT: true; the input reads as it did. -/
def refvalCircleSpec : ChangeSpec := { name := "refvalCircle", fn := fun _ => fun
  | [d1, d2] => { results := [.lit (.bool true)], args := [d1, d2] }
  | _ => none }
def refvalCircleRow : OpenClaim := { program := "ytaajbopgknekmaagreatdoor", sum := "9d7f1ce5b2e9bcda34512adbf2f46acde687611cad11595389e172cf62967a59", func := "gnomon/gnomonlaw16.RefvalCircle", spec := "refvalCircle", inPlace := ["math/bits.Add64", "math/bits.Sub64"], unfollowed := true, recurses := true, named := ["math/bits.deBruijn64tab", "math/bits.divideError", "math/bits.overflowError"], apart := false, laid := [("math/bits.deBruijn64tab", laid_math_bits_deBruijn64tab)] }
def RefvalCircleSaid : Prop := refvalCircleRow.holds Tryz.pinned (OpenSpec.ofChange refvalCircleSpec)

/-- ITS FALSE NEIGHBOUR: 'it returns false'. Refute it at one input. -/
def refvalCircleWrong : ChangeSpec := { name := "refvalCircle", fn := fun _ => fun
  | [d1, d2] => { results := [.lit (.bool false)], args := [d1, d2] }
  | _ => none }
def RefvalCircleWrongFalsely : Prop := refvalCircleRow.holds Tryz.pinned (OpenSpec.ofChange refvalCircleWrong)

/- THE SECOND FORM. 'bulk': how many values and letters a reading holds, each counted each time it is reached (what is shared counts as often as it is met; a slice's spare places count too). A statement '..UptoSaid' is the law's where the arguments, and the package variables that the reading takes, are together of bulk at most 1048576: NARROWER than '..Said'. Prove '..Said' where nothing that the law and all that it calls make is longer than what came in: it says more and counts as full. Else prove '..UptoSaid'. A law counts once. -/
mutual
def uptoBulk {H : Type} : DataW H → Nat
  | .lit (.string bytes) => bytes.length + 1
  | .lit _ => 1
  | .nil => 1
  | .ptr d => uptoBulk d + 1
  | .slice elems spare => uptoBulkAll elems + uptoBulkAll spare + 1
  | .agg parts => uptoBulkAll parts + 1
  | .iface _ d => uptoBulk d + 1
  | .map entries => uptoBulkEntries entries + 1
  | .held _ => 1
def uptoBulkAll {H : Type} : List (DataW H) → Nat
  | [] => 0
  | d :: r => uptoBulk d + uptoBulkAll r
def uptoBulkEntries {H : Type} : List (Lit × DataW H) → Nat
  | [] => 0
  | x :: r => uptoBulkEntry x + uptoBulkEntries r
def uptoBulkEntry {H : Type} : Lit × DataW H → Nat
  | (.string bytes, d) => bytes.length + uptoBulk d + 1
  | (_, d) => uptoBulk d + 1
 end
def uptoSmall : (H : Type) → List (DataW H) → Bool := fun _ ds => decide (uptoBulkAll ds ≤ 1048576)
def OpenSpec.upto (s : _root_.Go.ChangeSpec) : _root_.Go.OpenSpec := { _root_.Go.OpenSpec.ofChange s with cond := some uptoSmall }

/-- 'gnomonlaw16.RefvalSigns', WHERE WHAT IT READS IS OF BULK AT MOST 1048576: true; the input reads as it did. -/
def refvalSignsUptoRow : OpenClaim := { program := "ytaajbopgknekmaagreatdoor", sum := "9d7f1ce5b2e9bcda34512adbf2f46acde687611cad11595389e172cf62967a59", func := "gnomon/gnomonlaw16.RefvalSigns", spec := "refvalSigns", inPlace := ["math/bits.Add64", "math/bits.Sub64"], recurses := true, named := ["math/bits.deBruijn64tab", "math/bits.divideError", "math/bits.overflowError"], apart := false, laid := [("math/bits.deBruijn64tab", laid_math_bits_deBruijn64tab)], narrowed := true }
def RefvalSignsUptoSaid : Prop := refvalSignsUptoRow.holds Tryz.pinned (OpenSpec.upto refvalSignsSpec)

/-- 'gnomonlaw16.RefvalEncloses', WHERE WHAT IT READS IS OF BULK AT MOST 1048576: true; the input reads as it did. -/
def refvalEnclosesUptoRow : OpenClaim := { program := "ytaajbopgknekmaagreatdoor", sum := "9d7f1ce5b2e9bcda34512adbf2f46acde687611cad11595389e172cf62967a59", func := "gnomon/gnomonlaw16.RefvalEncloses", spec := "refvalEncloses", inPlace := ["math/bits.Add64", "math/bits.Sub64"], recurses := true, named := ["math/bits.deBruijn64tab", "math/bits.divideError", "math/bits.overflowError"], apart := false, laid := [("math/bits.deBruijn64tab", laid_math_bits_deBruijn64tab)], narrowed := true }
def RefvalEnclosesUptoSaid : Prop := refvalEnclosesUptoRow.holds Tryz.pinned (OpenSpec.upto refvalEnclosesSpec)

/-- 'gnomonlaw16.RefvalAll', WHERE WHAT IT READS IS OF BULK AT MOST 1048576: true; the input reads as it did. -/
def refvalAllUptoRow : OpenClaim := { program := "ytaajbopgknekmaagreatdoor", sum := "9d7f1ce5b2e9bcda34512adbf2f46acde687611cad11595389e172cf62967a59", func := "gnomon/gnomonlaw16.RefvalAll", spec := "refvalAll", inPlace := ["math/bits.Add64", "math/bits.Sub64"], recurses := true, named := ["math/bits.deBruijn64tab", "math/bits.divideError", "math/bits.overflowError"], apart := false, laid := [("math/bits.deBruijn64tab", laid_math_bits_deBruijn64tab)], narrowed := true }
def RefvalAllUptoSaid : Prop := refvalAllUptoRow.holds Tryz.pinned (OpenSpec.upto refvalAllSpec)

/-- 'gnomonlaw16.RefvalKeeps', WHERE WHAT IT READS IS OF BULK AT MOST 1048576: true; the input reads as it did. -/
def refvalKeepsUptoRow : OpenClaim := { program := "ytaajbopgknekmaagreatdoor", sum := "9d7f1ce5b2e9bcda34512adbf2f46acde687611cad11595389e172cf62967a59", func := "gnomon/gnomonlaw16.RefvalKeeps", spec := "refvalKeeps", inPlace := ["math/bits.Add64", "math/bits.Sub64"], recurses := true, named := ["math/bits.deBruijn64tab", "math/bits.divideError", "math/bits.overflowError"], apart := false, laid := [("math/bits.deBruijn64tab", laid_math_bits_deBruijn64tab)], narrowed := true }
def RefvalKeepsUptoSaid : Prop := refvalKeepsUptoRow.holds Tryz.pinned (OpenSpec.upto refvalKeepsSpec)

/-- 'gnomonlaw16.RefvalMeets', WHERE WHAT IT READS IS OF BULK AT MOST 1048576: true; the input reads as it did. -/
def refvalMeetsUptoRow : OpenClaim := { program := "ytaajbopgknekmaagreatdoor", sum := "9d7f1ce5b2e9bcda34512adbf2f46acde687611cad11595389e172cf62967a59", func := "gnomon/gnomonlaw16.RefvalMeets", spec := "refvalMeets", inPlace := ["math/bits.Add64", "math/bits.Sub64"], unfollowed := true, recurses := true, named := ["math/bits.deBruijn64tab", "math/bits.divideError", "math/bits.overflowError"], apart := false, laid := [("math/bits.deBruijn64tab", laid_math_bits_deBruijn64tab)], narrowed := true }
def RefvalMeetsUptoSaid : Prop := refvalMeetsUptoRow.holds Tryz.pinned (OpenSpec.upto refvalMeetsSpec)

/-- 'gnomonlaw16.RefvalMirrors', WHERE WHAT IT READS IS OF BULK AT MOST 1048576: true; the input reads as it did. -/
def refvalMirrorsUptoRow : OpenClaim := { program := "ytaajbopgknekmaagreatdoor", sum := "9d7f1ce5b2e9bcda34512adbf2f46acde687611cad11595389e172cf62967a59", func := "gnomon/gnomonlaw16.RefvalMirrors", spec := "refvalMirrors", inPlace := ["math/bits.Add64", "math/bits.Sub64"], unfollowed := true, recurses := true, named := ["math/bits.deBruijn64tab", "math/bits.divideError", "math/bits.overflowError"], apart := false, laid := [("math/bits.deBruijn64tab", laid_math_bits_deBruijn64tab)], narrowed := true }
def RefvalMirrorsUptoSaid : Prop := refvalMirrorsUptoRow.holds Tryz.pinned (OpenSpec.upto refvalMirrorsSpec)

/-- 'gnomonlaw16.RefvalTangent', WHERE WHAT IT READS IS OF BULK AT MOST 1048576: true; the input reads as it did. -/
def refvalTangentUptoRow : OpenClaim := { program := "ytaajbopgknekmaagreatdoor", sum := "9d7f1ce5b2e9bcda34512adbf2f46acde687611cad11595389e172cf62967a59", func := "gnomon/gnomonlaw16.RefvalTangent", spec := "refvalTangent", inPlace := ["math/bits.Add64", "math/bits.Sub64"], unfollowed := true, recurses := true, named := ["math/bits.deBruijn64tab", "math/bits.divideError", "math/bits.overflowError"], apart := false, laid := [("math/bits.deBruijn64tab", laid_math_bits_deBruijn64tab)], narrowed := true }
def RefvalTangentUptoSaid : Prop := refvalTangentUptoRow.holds Tryz.pinned (OpenSpec.upto refvalTangentSpec)

/-- 'gnomonlaw16.RefvalCircle', WHERE WHAT IT READS IS OF BULK AT MOST 1048576: true; the input reads as it did. -/
def refvalCircleUptoRow : OpenClaim := { program := "ytaajbopgknekmaagreatdoor", sum := "9d7f1ce5b2e9bcda34512adbf2f46acde687611cad11595389e172cf62967a59", func := "gnomon/gnomonlaw16.RefvalCircle", spec := "refvalCircle", inPlace := ["math/bits.Add64", "math/bits.Sub64"], unfollowed := true, recurses := true, named := ["math/bits.deBruijn64tab", "math/bits.divideError", "math/bits.overflowError"], apart := false, laid := [("math/bits.deBruijn64tab", laid_math_bits_deBruijn64tab)], narrowed := true }
def RefvalCircleUptoSaid : Prop := refvalCircleUptoRow.holds Tryz.pinned (OpenSpec.upto refvalCircleSpec)

end Rows
end Go.Proofs.YtaajbopgknekmaaGreatDoor
