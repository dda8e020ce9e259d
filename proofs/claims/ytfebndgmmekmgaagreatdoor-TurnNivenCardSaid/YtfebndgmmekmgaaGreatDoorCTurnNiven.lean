/- TurnNiven answers true: Exact tells an answer just where 2x (of the tangent 4x) is whole, and it is a nought, 1, -1 or a pole. No condition. -/
import Derived.Test.YtfebndgmmekmgaaGreatDoorRows
import Derived.Test.YtfebndgmmekmgaaGreatDoorTie
import Derived.Test.YtfebndgmmekmgaaGreatDoorCards
import Derived.WalkKit
import Derived.ProofKit
import Derived.OpenShut
import Derived.LaidMore
import Derived.Stop.Joined
import Derived.Carry
import Derived.SevenTiedAt
import Derived.Test.YtfebndgmmekmgaaGreatDoorBTurnNiven4
namespace Go.Proofs.YtfebndgmmekmgaaGreatDoor.turnNiven
open Go Go.ChangeShapes Go.WideShapes Go.ChangeAt Go.RowKit Go.Proofs.YtfebndgmmekmgaaGreatDoor.AI
theorem own : ownKnob Tryz.prog.godebug = none := by kernel_rfl
abbrev laids : List (String × DataW Unit) := [("math/bits.deBruijn64tab", Rows.laid_math_bits_deBruijn64tab)]
theorem door_met (os : Os) (args : Array Value) : laidMetH Tryz.prog laids ((World.doorLaid Tryz.prog 4000 os).forCall (fun _ _ => 0) ⟨#[], args, []⟩).memory :=
  laidMetH_of_parts3 (fuel := 8) (laidMet_of_run' 8 (by kernel_rfl) (by kernel_rfl)) (by kernel_rfl) (by kernel_rfl)
theorem globs_ok {W1 : World} (h : laidMetH Tryz.prog laids W1) : GlobOk W.globs noX W1 := by
  rw [MakeChecks.laidMetH_plain _ _ _ (by kernel_rfl)] at h
  obtain ⟨ps, ⟨g0, t0, cs0, f0, p0, q0, hg0, ht0, hv0, hd0, _, _⟩, _, _⟩ := h
  obtain rfl := Option.some.inj ((show Tryz.prog.globalNamed "math/bits.deBruijn64tab" = some 0 by kernel_rfl).symm.trans hg0)
  obtain ⟨T0, hT0⟩ : ∃ T, T = (Tryz.prog.globals[0]?).map (·.type) := ⟨_, rfl⟩
  have e0 : t0 = 206 := Option.some.inj (ht0.symm.trans (show (Tryz.prog.globals[0]?).map (·.type) = some 206 by kernel_rfl))
  subst e0
  have k0 := glob_ints (k := .u8) (n := 64) (ns := [0, 1, 56, 2, 57, 49, 28, 3, 61, 58, 42, 50, 38, 29, 17, 4, 62, 47, 59, 36, 45, 43, 51, 22, 53, 39, 33, 30, 24, 18, 12, 5, 63, 55, 48, 27, 60, 41, 37, 16, 46, 35, 44, 21, 52, 32, 23, 11, 54, 26, 40, 15, 34, 20, 31, 10, 25, 14, 19, 9, 13, 8, 7, 6]) hg0 hv0 Tryz.underlying206 Tryz.underlying5 (by kernel_rfl) rfl (by decide) hd0
  intro g k ns hg
  unfold W.globs at hg
  cases hb0 : Nat.beq g 0 with
  | true =>
    rw [hb0] at hg
    obtain rfl := Nat.eq_of_beq_eq_true hb0
    simp only [cond_true, Option.some.injEq, Prod.mk.injEq] at hg
    obtain ⟨rfl, rfl⟩ := hg
    exact k0
  | false =>
  rw [hb0, cond_false] at hg
  cases hg
set_option maxRecDepth 100000 in
theorem lifted (os : Os) (started : os.Started) (H : Type) (enc : TypeId × Value → H) :
    ReturnsInHanded {} Tryz.checked os 6 .any (fun w args => (Rows.turnNivenSpec.pre enc Tryz.prog Tryz.f6 [] false w args ∧ laidMetH Tryz.prog laids w) ∧ sizedMet enc Tryz.prog Tryz.f6 (OpenSpec.ofChange Rows.turnNivenSpec) false w args) (Rows.turnNivenSpec.post enc Tryz.prog Tryz.f6 false true false false) := by
  refine returnsInHanded_of_change_and (C := Tryz.checked) (X := fun w _ => laidMetH Tryz.prog laids w) (fun _ _ _ hh h => h.of_heap hh) own started (by kernel_rfl) Tryz.func6
    (ChangeSpec.witness_shaped (enc := enc) (C := Tryz.checked) (os := os) (X := fun w _ => laidMetH Tryz.prog laids w) false (World.doorLaid Tryz.prog 4000 os) #[.int .i64 0, .int .u64 0] 8 rfl (World.shaped_of_RefB (by kernel_rfl) (by kernel_rfl)) (by kernel_rfl) (by kernel_rfl) (by kernel_rfl) (door_met os _)) ?_
  intro W1 base args ds gs before hval0 hW _ _ hL _
  have hval : ∀ (j : Nat) t v, Tryz.f6.params[j]? = some t → args[j]? = some v → Value.okWide Tryz.prog W1 .any base t v := hval0
  have hW' := hW
  obtain ⟨p, q, hA0, hV, rfl, hfz, hnd⟩ := hW
  have hA : DataW.TrodAll enc Tryz.prog W1 0 (fun _ => true) true Tryz.f6.params.toList args.toList ds p := hA0
  rw [Tryz.params6] at hA hval
  obtain ⟨v0, vs0, d0, ds0, p0, q0, hargs, rfl, rfl, h0, r0⟩ := trodAll_cons hA
  obtain ⟨v1, vs1, d1, ds1, p1, q1, rfl, rfl, rfl, h1, r1⟩ := trodAll_cons r0
  obtain ⟨rfl, rfl, rfl⟩ := trodAll_nil r1
  obtain rfl : args = #[v0, v1] := by cases args; simp_all
  obtain ⟨rfl, rfl⟩ := trodVars_none hV
  obtain ⟨a0, rfl, rfl, rfl, x0⟩ := open_int Tryz.underlying3 (hval 0 3 v0 rfl rfl) h0
  obtain ⟨a1, rfl, rfl, rfl, x1⟩ := open_int Tryz.underlying24 (hval 1 24 v1 rfl rfl) h1
  clear hA0 hval0
  have hG := globs_ok hL
  simp only [List.append_nil] at hW'
  have hc : Contract Tryz.prog W.globs 6 [.s (.sc (.int .i64 a0)), .s (.sc (.int .u64 a1))] [.s (.sc (.bool true))] := by
    exact fn_contract W.LawNiven.fnok.ty W.LawNiven.fnok.calls W.LawNiven.fnok.mix W.LawNiven.fnok.fnc W.LawNiven.fnok.body W.LawNiven.fnok.nt (Nat.le_of_ble_eq_true rfl) (W.LawNiven.spec a0 a1 (wf64 x1))
  refine (calls_true hc (vs := [.int .i64 a0, .int .u64 a1]) hG rfl ?_).mono fun e W2 ⟨he, bel⟩ => ?_
  · intro i d v h1 h2
    match i with
    | 0 => simp at h1 h2; subst h1; subst h2; exact ⟨rfl, rfl⟩
    | 1 => simp at h1 h2; subst h1; subst h2; exact ⟨rfl, rfl⟩
    | i + 2 => simp at h1
  · subst he
    exact ⟨_, rfl, _, _, _, [], _, [], hW', trodAll_mk1 (shut_bool Tryz.underlying4 _), (trodAll_cons_mk (shut_int Tryz.underlying3 x0) (trodAll_cons_mk (shut_int Tryz.underlying24 x1) trodAll_mk0)), rfl, bel.frame _, fun h => by cases h⟩
theorem over : Rows.turnNivenRow.holds Tryz.pinned (OpenSpec.ofChange Rows.turnNivenSpec) :=
  OpenClaim.holds_of_wide 6 Tryz.f6 rfl rfl rfl rfl rfl rfl rfl ⟨rfl, rfl, rfl, rfl, rfl⟩ rfl rfl rfl rfl rfl (by kernel_rfl) Tryz.func6 (by kernel_rfl)
    (of_decide_eq_true (by kernel_rfl)) (by unfold Func.isWrapper; first | (rw [if_pos (by decide +kernel)]; kernel_rfl) | (rw [if_neg (by decide +kernel)]; exact ⟨rfl, rfl⟩))
    (fun os started H enc _ => lifted os started H enc)
/-- THE STATEMENT. -/
theorem proved : Rows.TurnNivenCardSaid :=
  Claim7.holds_tied_plain_at .later [] [.data] true (true, "64af3fbfe62da49016023b121107b3be52603ac9de41b18cc293005b671732c9") false
    over (fun _ h => by cases h) (by kernel_rfl) (fun _ h => by cases h) turnNiven_row_tie rfl ⟨rfl, rfl⟩ (by kernel_rfl) rfl
    (fun f fn hf hfn => by
      obtain rfl : f = 6 := Option.some.inj ((show Tryz.prog.funcNamed "gnomon/gnomonlaw17.TurnNiven" = some 6 by kernel_rfl).symm.trans hf) |>.symm
      obtain rfl : fn = Tryz.f6 := (Option.some.inj (Tryz.func6.symm.trans hfn)).symm
      exact ⟨by kernel_rfl, fun j t ht => by
        rw [Tryz.params6] at ht
        have hm : t ∈ [3, 24] := by simpa using Array.mem_of_getElem? ht
        have hall : ([3, 24].all fun u => !Tryz.prog.wantsStandIn u) = true := by kernel_rfl
        exact (show Tryz.prog.wantsStandIn t = false by simpa using List.all_eq_true.1 hall t hm)⟩)
    (by kernel_rfl)
#print axioms proved
end Go.Proofs.YtfebndgmmekmgaaGreatDoor.turnNiven
