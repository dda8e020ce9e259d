/- Of -x Exact tells the answer with the other sign, of CosPi the same; of both formats one and the same case. -/
import Derived.Test.YtknafopmgaolmaaGreatDoorRows
import Derived.Test.YtknafopmgaolmaaGreatDoorTie
import Derived.Test.YtknafopmgaolmaaGreatDoorCards
import Derived.WalkKit
import Derived.ProofKit
import Derived.OpenShut
import Derived.LaidMore
import Derived.Stop.Joined
import Derived.Carry
import Derived.SevenTiedAt
import Derived.Test.YtknafopmgaolmaaGreatDoorBTurnMirrors5
namespace Go.Proofs.YtknafopmgaolmaaGreatDoor.turnMirrors
open Go Go.ChangeShapes Go.WideShapes Go.ChangeAt Go.RowKit Go.Proofs.YtknafopmgaolmaaGreatDoor.AI
theorem own : ownKnob Tryz.prog.godebug = none := by kernel_rfl
abbrev laids : List (String × DataW Unit) := [("math/bits.deBruijn64tab", Rows.laid_math_bits_deBruijn64tab)]
theorem door_met (os : Os) (args : Array Value) : laidMetH Tryz.prog laids ((World.doorLaid Tryz.prog 4000 os).forCall (fun _ _ => 0) ⟨#[], args, []⟩).memory :=
  laidMetH_of_parts3 (fuel := 8) (laidMet_of_run' 8 (by kernel_rfl) (by kernel_rfl)) (by kernel_rfl) (by kernel_rfl)
theorem globs_ok {W1 : World} (h : laidMetH Tryz.prog laids W1) : GlobOk W.globs noX W1 := by
  rw [MakeChecks.laidMetH_plain _ _ _ (by kernel_rfl)] at h
  obtain ⟨ps, ⟨g0, t0, cs0, f0, p0, q0, hg0, ht0, hv0, hd0, _, _⟩, _, _⟩ := h
  obtain rfl := Option.some.inj ((show Tryz.prog.globalNamed "math/bits.deBruijn64tab" = some 0 by kernel_rfl).symm.trans hg0)
  obtain ⟨T0, hT0⟩ : ∃ T, T = (Tryz.prog.globals[0]?).map (·.type) := ⟨_, rfl⟩
  have e0 : t0 = 237 := Option.some.inj (ht0.symm.trans (show (Tryz.prog.globals[0]?).map (·.type) = some 237 by kernel_rfl))
  subst e0
  have k0 := glob_ints (k := .u8) (n := 64) (ns := [0, 1, 56, 2, 57, 49, 28, 3, 61, 58, 42, 50, 38, 29, 17, 4, 62, 47, 59, 36, 45, 43, 51, 22, 53, 39, 33, 30, 24, 18, 12, 5, 63, 55, 48, 27, 60, 41, 37, 16, 46, 35, 44, 21, 52, 32, 23, 11, 54, 26, 40, 15, 34, 20, 31, 10, 25, 14, 19, 9, 13, 8, 7, 6]) hg0 hv0 Tryz.underlying237 Tryz.underlying5 (by kernel_rfl) rfl (by decide) hd0
  intro g k ns hg
  unfold W.globs at hg
  cases hb0 : Nat.beq g 0 with
  | true =>
    rw [hb0] at hg
    obtain rfl := Nat.eq_of_beq_eq_true hb0
    simp only [cond_true, Option.some.injEq, Prod.mk.injEq] at hg
    obtain ⟨rfl, rfl⟩ := hg
    exact k0
  | false =>
  rw [hb0, cond_false] at hg
  cases hg
set_option maxRecDepth 100000 in
theorem lifted (os : Os) (started : os.Started) (H : Type) (enc : TypeId × Value → H) :
    ReturnsInHanded {} Tryz.checked os 16 .any (fun w args => (Rows.turnMirrorsSpec.pre enc Tryz.prog Tryz.f16 [] false w args ∧ laidMetH Tryz.prog laids w) ∧ sizedMet enc Tryz.prog Tryz.f16 (OpenSpec.ofChange Rows.turnMirrorsSpec) false w args) (Rows.turnMirrorsSpec.post enc Tryz.prog Tryz.f16 false true false false) := by
  refine returnsInHanded_of_change_and (C := Tryz.checked) (X := fun w _ => laidMetH Tryz.prog laids w) (fun _ _ _ hh h => h.of_heap hh) own started (by kernel_rfl) Tryz.func16
    (ChangeSpec.witness_shaped (enc := enc) (C := Tryz.checked) (os := os) (X := fun w _ => laidMetH Tryz.prog laids w) false (World.doorLaid Tryz.prog 4000 os) #[.int .i64 0, .int .u64 0, .bool false] 8 rfl (World.shaped_of_RefB (by kernel_rfl) (by kernel_rfl)) (by kernel_rfl) (by kernel_rfl) (by kernel_rfl) (door_met os _)) ?_
  intro W1 base args ds gs before hval0 hW _ _ hL _
  have hval : ∀ (j : Nat) t v, Tryz.f16.params[j]? = some t → args[j]? = some v → Value.okWide Tryz.prog W1 .any base t v := hval0
  have hW' := hW
  obtain ⟨p, q, hA0, hV, rfl, hfz, hnd⟩ := hW
  have hA : DataW.TrodAll enc Tryz.prog W1 0 (fun _ => true) true Tryz.f16.params.toList args.toList ds p := hA0
  rw [Tryz.params16] at hA hval
  obtain ⟨v0, vs0, d0, ds0, p0, q0, hargs, rfl, rfl, h0, r0⟩ := trodAll_cons hA
  obtain ⟨v1, vs1, d1, ds1, p1, q1, rfl, rfl, rfl, h1, r1⟩ := trodAll_cons r0
  obtain ⟨v2, vs2, d2, ds2, p2, q2, rfl, rfl, rfl, h2, r2⟩ := trodAll_cons r1
  obtain ⟨rfl, rfl, rfl⟩ := trodAll_nil r2
  obtain rfl : args = #[v0, v1, v2] := by cases args; simp_all
  obtain ⟨rfl, rfl⟩ := trodVars_none hV
  obtain ⟨a0, rfl, rfl, rfl, x0⟩ := open_int Tryz.underlying3 (hval 0 3 v0 rfl rfl) h0
  obtain ⟨a1, rfl, rfl, rfl, x1⟩ := open_int Tryz.underlying23 (hval 1 23 v1 rfl rfl) h1
  obtain ⟨a2, rfl, rfl, rfl⟩ := open_bool Tryz.underlying4 (hval 2 4 v2 rfl rfl) h2
  clear hA0 hval0
  have hG := globs_ok hL
  simp only [List.append_nil] at hW'
  have hc : Contract Tryz.prog W.globs 16 [.s (.sc (.int .i64 a0)), .s (.sc (.int .u64 a1)), .s (.sc (.bool a2))] [.s (.sc (.bool true))] := by
    exact fn_contract W.LawMirrors.fnok.ty W.LawMirrors.fnok.calls W.LawMirrors.fnok.mix W.LawMirrors.fnok.fnc W.LawMirrors.fnok.body W.LawMirrors.fnok.nt W.LawMirrors.fnok.io (Nat.le_of_ble_eq_true rfl) (W.LawMirrors.spec a0 a1 a2 (wf64 x1))
  refine (calls_true hc (vs := [.int .i64 a0, .int .u64 a1, .bool a2]) hG rfl ?_).mono fun e W2 ⟨he, bel⟩ => ?_
  · intro i d v h1 h2
    match i with
    | 0 => simp at h1 h2; subst h1; subst h2; exact ⟨rfl, rfl⟩
    | 1 => simp at h1 h2; subst h1; subst h2; exact ⟨rfl, rfl⟩
    | 2 => simp at h1 h2; subst h1; subst h2; exact ⟨rfl, rfl⟩
    | i + 3 => simp at h1
  · subst he
    exact ⟨_, rfl, _, _, _, [], _, [], hW', trodAll_mk1 (shut_bool Tryz.underlying4 _), (trodAll_cons_mk (shut_int Tryz.underlying3 x0) (trodAll_cons_mk (shut_int Tryz.underlying23 x1) (trodAll_cons_mk (shut_bool Tryz.underlying4 _) trodAll_mk0))), rfl, bel.frame _, fun h => by cases h⟩
set_option linter.unusedVariables false
noncomputable abbrev jP : Program := Tryz.prog
noncomputable abbrev jF : FuncId := 16
noncomputable abbrev jN : Func := Tryz.f16
noncomputable abbrev jS : ChangeSpec := Rows.turnMirrorsSpec
noncomputable abbrev jC : OpenClaim := Rows.turnMirrorsRow
theorem j0 : (fun (P : Program) (f : FuncId) (fn : Func) (s : ChangeSpec) (c : OpenClaim) => ((c.wf (OpenSpec.ofChange s) : Bool))) jP jF jN jS jC = true := by kernel_rfl
theorem j1 : (fun (P : Program) (f : FuncId) (fn : Func) (s : ChangeSpec) (c : OpenClaim) => ((laidOutB P : Bool))) jP jF jN jS jC = true := by kernel_rfl
theorem j2 : (fun (P : Program) (f : FuncId) (fn : Func) (s : ChangeSpec) (c : OpenClaim) => ((mapsRowed P : Bool))) jP jF jN jS jC = true := by kernel_rfl
theorem j3 : (fun (P : Program) (f : FuncId) (fn : Func) (s : ChangeSpec) (c : OpenClaim) => ((fn.params.all (P.readableRec ·) : Bool))) jP jF jN jS jC = true := by kernel_rfl
theorem j4 : (fun (P : Program) (f : FuncId) (fn : Func) (s : ChangeSpec) (c : OpenClaim) => ((namedTie P c.named s.vars : Bool))) jP jF jN jS jC = true := by kernel_rfl
theorem j5 : (fun (P : Program) (f : FuncId) (fn : Func) (s : ChangeSpec) (c : OpenClaim) => (((c.stops == []) : Bool))) jP jF jN jS jC = true := by kernel_rfl
theorem j6 : (fun (P : Program) (f : FuncId) (fn : Func) (s : ChangeSpec) (c : OpenClaim) => (((P.stops == []) : Bool))) jP jF jN jS jC = true := by kernel_rfl
theorem j7 : (fun (P : Program) (f : FuncId) (fn : Func) (s : ChangeSpec) (c : OpenClaim) => (((c.knobs == []) : Bool))) jP jF jN jS jC = true := by kernel_rfl
theorem j8 : (fun (P : Program) (f : FuncId) (fn : Func) (s : ChangeSpec) (c : OpenClaim) => (((P.stopKnobs == []) : Bool))) jP jF jN jS jC = true := by kernel_rfl
theorem j9 : (fun (P : Program) (f : FuncId) (fn : Func) (s : ChangeSpec) (c : OpenClaim) => (((c.inPlace == P.inPlace f) : Bool))) jP jF jN jS jC = true := by kernel_rfl
theorem j10 : (fun (P : Program) (f : FuncId) (fn : Func) (s : ChangeSpec) (c : OpenClaim) => (((c.unfollowed == P.unfollowed f) : Bool))) jP jF jN jS jC = true := by kernel_rfl
theorem j11 : (fun (P : Program) (f : FuncId) (fn : Func) (s : ChangeSpec) (c : OpenClaim) => (((c.recurses == P.recurses f) : Bool))) jP jF jN jS jC = true := by kernel_rfl
theorem j12 : (fun (P : Program) (f : FuncId) (fn : Func) (s : ChangeSpec) (c : OpenClaim) => (((c.named == P.varsNamed f) : Bool))) jP jF jN jS jC = true := by kernel_rfl
theorem j13 : (fun (P : Program) (f : FuncId) (fn : Func) (s : ChangeSpec) (c : OpenClaim) => (((c.maps == (fn.params.toList ++ s.plain.varTypes P).any (P.mapsRec ·)) : Bool))) jP jF jN jS jC = true := by kernel_rfl
theorem j14 : (fun (P : Program) (f : FuncId) (fn : Func) (s : ChangeSpec) (c : OpenClaim) => (((c.ifaces == (fn.params.toList ++ s.plain.varTypes P).any (P.ifacesRec ·)) : Bool))) jP jF jN jS jC = true := by kernel_rfl
theorem j15 : (fun (P : Program) (f : FuncId) (fn : Func) (s : ChangeSpec) (c : OpenClaim) => (((c.mapsOut == P.mapsAmong fn.resultTypes.toList) : Bool))) jP jF jN jS jC = true := by kernel_rfl
theorem j16 : (fun (P : Program) (f : FuncId) (fn : Func) (s : ChangeSpec) (c : OpenClaim) => (((c.loops == (fn.params.toList ++ s.plain.varTypes P).any (P.loopsFrom ·)) : Bool))) jP jF jN jS jC = true := by kernel_rfl
theorem j17 : (fun (P : Program) (f : FuncId) (fn : Func) (s : ChangeSpec) (c : OpenClaim) => (((c.wideKeys == (fn.params.toList ++ s.plain.varTypes P ++ fn.resultTypes.toList).any (P.wideKeysFrom ·)) : Bool))) jP jF jN jS jC = true := by kernel_rfl
theorem j18 : (fun (P : Program) (f : FuncId) (fn : Func) (s : ChangeSpec) (c : OpenClaim) => ((s.vars.all (P.varReadable ·) : Bool))) jP jF jN jS jC = true := by kernel_rfl
theorem j19 : (fun (P : Program) (f : FuncId) (fn : Func) (s : ChangeSpec) (c : OpenClaim) => ((fn.resultTypes.all (fun t => P.readableRec t && decide (t < P.types.size)) : Bool))) jP jF jN jS jC = true := by kernel_rfl
theorem j20 : (fun (P : Program) (f : FuncId) (fn : Func) (s : ChangeSpec) (c : OpenClaim) => (((c.ifacesOut == fn.resultTypes.toList.any (P.ifacesRec ·)) : Bool))) jP jF jN jS jC = true := by kernel_rfl
theorem j21 : (fun (P : Program) (f : FuncId) (fn : Func) (s : ChangeSpec) (c : OpenClaim) => (((c.loopsOut == fn.resultTypes.toList.any (P.loopsFrom ·)) : Bool))) jP jF jN jS jC = true := by kernel_rfl
theorem j22 : (fun (P : Program) (f : FuncId) (fn : Func) (s : ChangeSpec) (c : OpenClaim) => (((c.plainKeys == P.plainKeys) : Bool))) jP jF jN jS jC = true := by kernel_rfl
theorem j23 : (fun (P : Program) (f : FuncId) (fn : Func) (s : ChangeSpec) (c : OpenClaim) => ((c.shortTexts.isNone : Bool))) jP jF jN jS jC = true := by kernel_rfl
theorem j24 : (fun (P : Program) (f : FuncId) (fn : Func) (s : ChangeSpec) (c : OpenClaim) => ((P.stopsHeard : Bool))) jP jF jN jS jC = true := by kernel_rfl
theorem j25 : (fun (P : Program) (f : FuncId) (fn : Func) (s : ChangeSpec) (c : OpenClaim) => ((P.mayEnter : Bool))) jP jF jN jS jC = true := by kernel_rfl
theorem j26 : (fun (P : Program) (f : FuncId) (fn : Func) (s : ChangeSpec) (c : OpenClaim) => (((c.lifted == P.liftsFinal) : Bool))) jP jF jN jS jC = true := by kernel_rfl
theorem j27 : (fun (P : Program) (f : FuncId) (fn : Func) (s : ChangeSpec) (c : OpenClaim) => (((P.make == some c.make) : Bool))) jP jF jN jS jC = true := by kernel_rfl
theorem j28 : (fun (P : Program) (f : FuncId) (fn : Func) (s : ChangeSpec) (c : OpenClaim) => (((c.kinds == (if c.domain.isEmpty then [] else fn.params.toList.map fun t => match P.underlying t with | some (.int k) => some k | _ => none)) : Bool))) jP jF jN jS jC = true := by kernel_rfl
theorem j29 : (fun (P : Program) (f : FuncId) (fn : Func) (s : ChangeSpec) (c : OpenClaim) => (((c.pinned == c.pinnedBy) : Bool))) jP jF jN jS jC = true := by kernel_rfl
theorem j30 : (fun (P : Program) (f : FuncId) (fn : Func) (s : ChangeSpec) (c : OpenClaim) => (((c.veiled == (fn.params.toList ++ s.plain.varTypes P ++ fn.resultTypes.toList).any (P.veiledRec ·)) : Bool))) jP jF jN jS jC = true := by kernel_rfl
theorem j31 : (fun (P : Program) (f : FuncId) (fn : Func) (s : ChangeSpec) (c : OpenClaim) => ((c.veiledFits P fn.params.toList (fn.params.toList ++ s.plain.varTypes P ++ fn.resultTypes.toList) : Bool))) jP jF jN jS jC = true := by kernel_rfl
theorem andT {a b : Bool} (ha : a = true) (hb : b = true) : (a && b) = true := by rw [ha, hb]; rfl
set_option maxRecDepth 100000 in
theorem joined : joinedFacts jP jF jN jS jC = true := by unfold joinedFacts; exact (andT (andT (andT (andT (andT (andT (andT (andT (andT (andT (andT (andT (andT (andT (andT (andT (andT (andT (andT (andT (andT (andT (andT (andT (andT (andT (andT (andT (andT (andT (andT j0 j1) j2) j3) j4) j5) j6) j7) j8) j9) j10) j11) j12) j13) j14) j15) j16) j17) j18) j19) j20) j21) j22) j23) j24) j25) j26) j27) j28) j29) j30) j31)
theorem nm : Tryz.prog.funcNamed "gnomon/gnomonlaw17.TurnMirrors" = some 16 := by kernel_rfl
theorem inst : Tryz.f16.isInstance Tryz.prog jC.origin jC.targs := of_decide_eq_true (by kernel_rfl)
theorem wrap : Tryz.f16.isWrapper Tryz.prog jC.wrapper jC.mainSum := by unfold Func.isWrapper; first | (rw [if_pos (by decide +kernel)]; kernel_rfl) | (rw [if_neg (by decide +kernel)]; exact ⟨rfl, rfl⟩)
theorem over : Rows.turnMirrorsRow.holds Tryz.pinned (OpenSpec.ofChange Rows.turnMirrorsSpec) :=
  OpenClaim.holds_of_wide 16 Tryz.f16 rfl rfl rfl rfl rfl rfl rfl ⟨rfl, rfl, rfl, rfl, rfl⟩ rfl rfl rfl rfl rfl nm Tryz.func16 joined inst wrap
    (fun os started H enc _ => lifted os started H enc)
theorem c0 : jC.wfByText (OpenSpec.ofChange jS) = true := by kernel_rfl
theorem c1 : Tryz.pinned.checked.prog.mainIs = some (true, ("1e362930fb02ee4b47139d7ee7ab9da7424727f44f70d264cd7f24e61bde3d47" : String).toList) := by kernel_rfl
theorem c2 : false = Tryz.pinned.checked.prog.looks [] := by kernel_rfl
theorem c3 : false = jC.goesBy Tryz.pinned.checked.prog := by kernel_rfl
theorem c4 : ([3, 23, 4].all fun u => !Tryz.prog.wantsStandIn u) = true := by kernel_rfl
/-- THE STATEMENT. -/
theorem proved : Rows.TurnMirrorsCardSaid :=
  Claim7.holds_tied_plain_at .later [] [.data] true (true, "1e362930fb02ee4b47139d7ee7ab9da7424727f44f70d264cd7f24e61bde3d47") false
    over (fun _ h => by cases h) c0 (fun _ h => by cases h) turnMirrors_row_tie rfl ⟨rfl, rfl⟩ c1 rfl
    (fun f fn hf hfn => by
      obtain rfl : f = 16 := Option.some.inj (nm.symm.trans hf) |>.symm
      obtain rfl : fn = Tryz.f16 := (Option.some.inj (Tryz.func16.symm.trans hfn)).symm
      exact ⟨c2, fun j t ht => by
        rw [Tryz.params16] at ht
        have hm : t ∈ [3, 23, 4] := by simpa using Array.mem_of_getElem? ht
        exact (show Tryz.prog.wantsStandIn t = false by simpa using List.all_eq_true.1 c4 t hm)⟩)
    c3
#print axioms proved
end Go.Proofs.YtknafopmgaolmaaGreatDoor.turnMirrors
