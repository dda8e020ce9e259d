/- Texts of the claim on TurnSplits, in their order: FLSame, FDocOf5, FLPoint, FLAwake, FLawReduces, FLFinite, FDocForm1, FDocForm5, FDOf, FLawSplits, Row0. -/
import Derived.WalkKit
import Derived.ProofKit
import Derived.OpenShut
import Derived.Carry
import Derived.LaidMore
import Derived.MakeChecks
import Derived.Test.YtfebndgmmekmgaaGreatDoorBTurnSplits4
/- gnomon/gnomonlaw17.same -/
namespace Go.Proofs.YtfebndgmmekmgaaGreatDoor.W
open Go Go.Proofs.YtfebndgmmekmgaaGreatDoor.AI Go.Proofs.YtfebndgmmekmgaaGreatDoor.M
namespace LSame
noncomputable def E : Env := { ({ base with C := callsOf [(11, Same5.orc)] }) with nt := 17, own := [15], keep := fun k => (tlook [] k).getD [], cut := tlook [] }
noncomputable def cod : Code := (Go.Proofs.Tryz.f29.body).getD .skip
theorem nok : namesOk E cod = true := by kernel_rfl
theorem start (a1 : Bool) (a2 : List Int) (a3 : Int) (a4 : Bool) (a5 : List Int) (a6 : Int) (b1 : Bool) (b2 : List Int) (b3 : Int) (b4 : Bool) (b5 : List Int) (b6 : Int) : evalFn E Go.Proofs.Tryz.f29 cod [D.agg [S.sc (Value.bool a1), S.ints IntKind.u64 a2, S.sc (Value.int IntKind.i64 a3), S.sc (Value.bool a4), S.ints IntKind.u64 a5, S.sc (Value.int IntKind.i64 a6)], D.agg [S.sc (Value.bool b1), S.ints IntKind.u64 b2, S.sc (Value.int IntKind.i64 b3), S.sc (Value.bool b4), S.ints IntKind.u64 b5, S.sc (Value.int IntKind.i64 b6)]] = gif (DyOk (a1, a2, a3) ∧ DyOk (b1, b2, b3)) (bcase (decide (dv (a1, a2, a3) = dv (b1, b2, b3))) (gif (DyOk (a4, a5, a6) ∧ DyOk (b4, b5, b6)) (some [D.s (S.sc (Value.bool (decide (dv (a4, a5, a6) = dv (b4, b5, b6)))))])) (some [D.s (S.sc (Value.bool false))])) := (evalFn_J rfl nok _).trans (by kernel_rfl)
-- stuck: 0
end LSame
namespace LSame
abbrev Spt := Bool × List Int × Int × Bool × List Int × Int
def lo (x : Spt) : Dyt := (x.1, x.2.1, x.2.2.1)
def hi (x : Spt) : Dyt := (x.2.2.2.1, x.2.2.2.2.1, x.2.2.2.2.2)
noncomputable def sp (x y : Spt) : Prop × List D := ((DyOk (lo x) ∧ DyOk (lo y)) ∧ DyOk (hi x) ∧ DyOk (hi y), [.s (.sc (.bool (decide (dv (lo x) = dv (lo y)) && decide (dv (hi x) = dv (hi y)))))])
theorem spec (x y : Spt) (h : (sp x y).1) : evalFn E Tryz.f29 cod [(pG (.pair sB (.pair (sI .u64) (.pair (sN .i64) (.pair sB (.pair (sI .u64) (sN .i64))))))).put x, (pG (.pair sB (.pair (sI .u64) (.pair (sN .i64) (.pair sB (.pair (sI .u64) (sN .i64))))))).put y] = some (sp x y).2 := by
  obtain ⟨h1, h2⟩ := h
  refine (start x.1 x.2.1 x.2.2.1 x.2.2.2.1 x.2.2.2.2.1 x.2.2.2.2.2 y.1 y.2.1 y.2.2.1 y.2.2.2.1 y.2.2.2.2.1 y.2.2.2.2.2).trans ((gP h1).trans ?_)
  by_cases hc : dv (lo x) = dv (lo y)
  · have : decide (dv (x.1, x.2.1, x.2.2.1) = dv (y.1, y.2.1, y.2.2.1)) = true := decide_eq_true hc
    rw [this, bT]
    refine (gP h2).trans ?_
    unfold sp
    rw [decide_eq_true hc, Bool.true_and]
    rfl
  · have : decide (dv (x.1, x.2.1, x.2.2.1) = dv (y.1, y.2.1, y.2.2.1)) = false := decide_eq_false hc
    rw [this, bF]
    unfold sp
    rw [decide_eq_false hc, Bool.false_and]

noncomputable def orc : Orc := orc2 (pG (.pair sB (.pair (sI .u64) (.pair (sN .i64) (.pair sB (.pair (sI .u64) (sN .i64))))))) (pG (.pair sB (.pair (sI .u64) (.pair (sN .i64) (.pair sB (.pair (sI .u64) (sN .i64))))))) sp
theorem fnok : FnOk Tryz.prog E 29 Tryz.f29 cod := fnOk ty_ok mixed (callsOk_of _ rfl (orcs_cons Same5.ok orcs_nil) (ext_ok)) Tryz.func29 rfl rfl rfl
theorem ok : OrcOk Tryz.prog base.glob 29 orc := fnok.ok2 rfl spec
end LSame
end Go.Proofs.YtfebndgmmekmgaaGreatDoor.W

/- gnomon/gnomonref05.DocOf -/
namespace Go.Proofs.YtfebndgmmekmgaaGreatDoor.W
open Go Go.Proofs.YtfebndgmmekmgaaGreatDoor.AI Go.Proofs.YtfebndgmmekmgaaGreatDoor.M
namespace DocOf5
noncomputable def E : Env := { ({ base with C := callsOf [(90, ZOf.orc), (37, Told5.orc)] }) with nt := 12, own := [], keep := fun k => (tlook [] k).getD [], cut := tlook [] }
noncomputable def cod : Code := (Go.Proofs.Tryz.f74.body).getD .skip
theorem nok : namesOk E cod = true := by kernel_rfl
theorem start (a : Int) : evalFn E Go.Proofs.Tryz.f74 cod [D.s (S.sc (Value.int IntKind.i64 a))] = gif ((-9223372036854775808 : Int) ≤ a ∧ a < (9223372036854775808 : Int)) (gif (Zok (isNeg a, dg a.natAbs) ∧ (isNeg a, dg a.natAbs).snd.length ≤ (268435456 : Nat) ∧ (-4611686018427387904 : Int) ≤ (0 : Int) ∧ (0 : Int) < (4611686018427387904 : Int)) (vlet (isNeg (bif Told5.toldOk (zv (isNeg a, dg a.natAbs)) (0 : Int) then nrmD (zv (isNeg a, dg a.natAbs)) (0 : Int) else ((0 : Int), (0 : Int))).fst) fun y0 => vlet (M6.dg (bif Told5.toldOk (zv (isNeg a, dg a.natAbs)) (0 : Int) then nrmD (zv (isNeg a, dg a.natAbs)) (0 : Int) else ((0 : Int), (0 : Int))).fst.natAbs) fun y1 => vlet (bif Told5.toldOk (zv (isNeg a, dg a.natAbs)) (0 : Int) then nrmD (zv (isNeg a, dg a.natAbs)) (0 : Int) else ((0 : Int), (0 : Int))).snd fun y2 => some [D.agg [S.sc (Value.bool y0), S.ints IntKind.u64 y1, S.sc (Value.int IntKind.i64 y2)]])) := (evalFn_J rfl nok _).trans (by kernel_rfl)
-- stuck: 0
end DocOf5
namespace DocOf5
noncomputable def sp (a : Int) : Prop × List D := (-9223372036854775808 ≤ a ∧ a < 9223372036854775808, [dD (nrmD a 0)])
theorem spec (a : Int) (h : (sp a).1) : evalFn E Tryz.f74 cod [(pN .i64).put a] = some (sp a).2 := by
  have h : -9223372036854775808 ≤ a ∧ a < 9223372036854775808 := h
  have hb : bl a.natAbs ≤ 64 := bl_le.2 (by omega)
  have hl : (dg a.natAbs).length ≤ 2 := len_dg_le (by omega)
  refine (start a).trans ((gP h).trans ((gP ⟨zok_zD (by omega), by dsimp only; omega, by omega, by omega⟩).trans ?_))
  rw [zv_zD]
  have : Told5.toldOk a 0 = true := by
    unfold Told5.toldOk fit
    have := nrmD_abs a 0
    rw [inD_of (by omega) (by omega), decide_eq_true (Nat.le_trans (bl_mono this) (by omega))]
    rfl
  rw [this, cond_true, vl_dy]
  rfl

noncomputable def orc : Orc := orc1 (pN .i64) sp
theorem fnok : FnOk Tryz.prog E 74 Tryz.f74 cod := fnOk ty_ok mixed (callsOk_of _ rfl (orcs_cons ZOf.ok (orcs_cons Told5.ok orcs_nil)) (ext_ok)) Tryz.func74 rfl rfl rfl
theorem ok : OrcOk Tryz.prog base.glob 74 orc := fnok.ok1 rfl spec
end DocOf5
end Go.Proofs.YtfebndgmmekmgaaGreatDoor.W

/- gnomon/gnomonlaw17.point -/
namespace Go.Proofs.YtfebndgmmekmgaaGreatDoor.W
open Go Go.Proofs.YtfebndgmmekmgaaGreatDoor.AI Go.Proofs.YtfebndgmmekmgaaGreatDoor.M
namespace LPoint
noncomputable def E : Env := { ({ base with C := callsOf [(74, DocOf5.orc)] }) with nt := 8, own := [], keep := fun k => (tlook [] k).getD [], cut := tlook [] }
noncomputable def cod : Code := (Go.Proofs.Tryz.f30.body).getD .skip
theorem nok : namesOk E cod = true := by kernel_rfl
theorem start (a : Int) : evalFn E Go.Proofs.Tryz.f30 cod [D.s (S.sc (Value.int IntKind.i64 a))] = gif ((-9223372036854775808 : Int) ≤ a ∧ a < (9223372036854775808 : Int)) (vlet (isNeg (nrmD a (0 : Int)).fst) fun y0 => vlet (M6.dg (nrmD a (0 : Int)).fst.natAbs) fun y1 => vlet (nrmD a (0 : Int)).snd fun y2 => gif ((-9223372036854775808 : Int) ≤ a ∧ a < (9223372036854775808 : Int)) (vlet (isNeg (nrmD a (0 : Int)).fst) fun y3 => vlet (M6.dg (nrmD a (0 : Int)).fst.natAbs) fun y4 => vlet (nrmD a (0 : Int)).snd fun y5 => some [D.agg [S.sc (Value.bool y0), S.ints IntKind.u64 y1, S.sc (Value.int IntKind.i64 y2), S.sc (Value.bool y3), S.ints IntKind.u64 y4, S.sc (Value.int IntKind.i64 y5)]])) := (evalFn_J rfl nok _).trans (by kernel_rfl)
-- stuck: 0
end LPoint
namespace LPoint
noncomputable def sp (m : Int) : Prop × List D := (-9223372036854775808 ≤ m ∧ m < 9223372036854775808, [UPoint.sD (nrmD m 0) (nrmD m 0)])
theorem spec (m : Int) (h : (sp m).1) : evalFn E Tryz.f30 cod [(pN .i64).put m] = some (sp m).2 := by
  have h : -9223372036854775808 ≤ m ∧ m < 9223372036854775808 := h
  refine (start m).trans ?_
  rw [gP h, vl_dy, gP h, vl_dy]
  rfl

noncomputable def orc : Orc := orc1 (pN .i64) sp
theorem fnok : FnOk Tryz.prog E 30 Tryz.f30 cod := fnOk ty_ok mixed (callsOk_of _ rfl (orcs_cons DocOf5.ok orcs_nil) (ext_ok)) Tryz.func30 rfl rfl rfl
theorem ok : OrcOk Tryz.prog base.glob 30 orc := fnok.ok1 rfl spec
end LPoint
end Go.Proofs.YtfebndgmmekmgaaGreatDoor.W

/- gnomon/gnomonlaw17.awake -/
namespace Go.Proofs.YtfebndgmmekmgaaGreatDoor.W
open Go Go.Proofs.YtfebndgmmekmgaaGreatDoor.AI Go.Proofs.YtfebndgmmekmgaaGreatDoor.M
namespace LAwake
noncomputable def E : Env := { ({ base with C := callsOf [(9, UReduce.orc), (12, UExact.orc), (28, UEnclose.orc), (29, LSame.orc), (30, LPoint.orc)] }) with nt := 59, own := [57], keep := fun k => (tlook [] k).getD [], cut := tlook [] }
noncomputable def cod : Code := (Go.Proofs.Tryz.f8.body).getD .skip
theorem nok : namesOk E cod = true := by kernel_rfl
theorem start : evalFn E Go.Proofs.Tryz.f8 cod [] = gif ((0 : Int) ≤ (4598175219545276416 : Int) ∧ (4598175219545276416 : Int) < (18446744073709551616 : Int)) (vlet (isNeg (bif BFinite.finB (64 : Int) (4598175219545276416 : Int) then UReduce.redD (UReduce.numV (4598175219545276416 : Int)) else ((0 : Int), (0 : Int))).fst) fun y0 => gif ((0 : Int) ≤ (4609434218613702656 : Int) ∧ (4609434218613702656 : Int) < (18446744073709551616 : Int)) (gif (((0 : Int) ≤ (4609434218613702656 : Int) ∧ (4609434218613702656 : Int) < (18446744073709551616 : Int)) ∧ UEnclose.EncIn (4 : Int) (4609434218613702656 : Int) (7 : Int)) (vlet (isNeg (nrmD (UEnclose.encV (4 : Int) (4609434218613702656 : Int)) (0 : Int)).fst) fun y2 => vlet (M6.dg (nrmD (UEnclose.encV (4 : Int) (4609434218613702656 : Int)) (0 : Int)).fst.natAbs) fun y3 => vlet (nrmD (UEnclose.encV (4 : Int) (4609434218613702656 : Int)) (0 : Int)).snd fun y4 => vlet (isNeg (nrmD (UEnclose.encV (4 : Int) (4609434218613702656 : Int)) (0 : Int)).fst) fun y5 => vlet (M6.dg (nrmD (UEnclose.encV (4 : Int) (4609434218613702656 : Int)) (0 : Int)).fst.natAbs) fun y6 => vlet (nrmD (UEnclose.encV (4 : Int) (4609434218613702656 : Int)) (0 : Int)).snd fun y7 => bcase (!y0) (some [D.s (S.sc (Value.bool false))]) (gif ((-9223372036854775808 : Int) ≤ (-1 : Int) ∧ (-1 : Int) < (9223372036854775808 : Int)) (vlet (isNeg (nrmD (-1 : Int) (0 : Int)).fst) fun y8 => vlet (M6.dg (nrmD (-1 : Int) (0 : Int)).fst.natAbs) fun y9 => vlet (nrmD (-1 : Int) (0 : Int)).snd fun y10 => vlet (isNeg (nrmD (-1 : Int) (0 : Int)).fst) fun y11 => vlet (M6.dg (nrmD (-1 : Int) (0 : Int)).fst.natAbs) fun y12 => vlet (nrmD (-1 : Int) (0 : Int)).snd fun y13 => gif ((DyOk ((y2, y3, y4, y5, y6, y7).fst, (y3, y4, y5, y6, y7).fst, (y4, y5, y6, y7).fst) ∧ DyOk ((y8, y9, y10, y11, y12, y13).fst, (y9, y10, y11, y12, y13).fst, (y10, y11, y12, y13).fst)) ∧ DyOk ((y5, y6, y7).fst, (y6, y7).fst, (y6, y7).snd) ∧ DyOk ((y11, y12, y13).fst, (y12, y13).fst, (y12, y13).snd)) (vlet (decide (dv (LSame.lo (y2, y3, y4, y5, y6, y7)) = dv (LSame.lo (y8, y9, y10, y11, y12, y13))) && decide (dv (LSame.hi (y2, y3, y4, y5, y6, y7)) = dv (LSame.hi (y8, y9, y10, y11, y12, y13)))) fun y14 => some [D.s (S.sc (Value.bool y14))])))))) := (evalFn_J rfl nok _).trans (by kernel_rfl)
-- stuck: 0
end LAwake
namespace LAwake
theorem num1 : UReduce.numV 4598175219545276416 = (1, -2) := by
  have e1 : BValue.valZ 64 4598175219545276416 = 1 * p2 52 := by decide
  have e2 : BValue.valE 64 4598175219545276416 = -54 := by decide
  unfold UReduce.numV
  rw [e1, e2, nrmD_p2 _ _ (by omega)]
  exact nrmD_same (p := (1, -2)) (by decide) (by decide)
theorem num3 : UExact.numF 64 4609434218613702656 = (3, -1) := by
  have e1 : BValue.valZ 64 4609434218613702656 = 3 * p2 51 := by decide
  have e2 : BValue.valE 64 4609434218613702656 = -52 := by decide
  unfold UExact.numF
  rw [e1, e2, nrmD_p2 _ _ (by omega)]
  exact nrmD_same (p := (3, -1)) (by decide) (by decide)
theorem red1 : UReduce.redD (1, -2) = (-1, -2) := by
  have e1 : UReduce.redR (1, -2) = -(1 * p2 1) := by decide
  unfold UReduce.redD
  rw [e1, nrmD_neg, nrmD_p2 _ _ (by omega)]
  show (-(nrmD 1 (-2)).1, (nrmD 1 (-2)).2) = _
  rw [nrmD_same (p := (1, -2)) (by decide) (by decide)]
theorem fin1 : BFinite.finB 64 4598175219545276416 = true := by decide
theorem fin3 : BFinite.finB 64 4609434218613702656 = true := by decide
theorem enc3 : UEnclose.EncIn 4 4609434218613702656 7 ∧ UEnclose.encV 4 4609434218613702656 = -1 := by
  refine ⟨⟨rfl, by omega, by omega, fin3, fun _ => ?_⟩, ?_⟩
  · rw [num3]; exact ⟨rfl, by decide⟩
  · unfold UEnclose.encV
    rw [num3]
    rfl
noncomputable def sp : Prop × List D := (True, [.s (.sc (.bool true))])
theorem spec (h : sp.1) : evalFn E Tryz.f8 cod [] = some sp.2 := by
  have hn : PIn (nrmD (-1) 0) := pin_nrm (inD_of (by omega) (by have := bl_neg bl_one; omega)) (by have := bl_neg bl_one; omega)
  refine start.trans ?_
  rw [fin1, cond_true, num1, red1, gP (by omega), vl, gP (by omega), gP ⟨by omega, enc3.1⟩, enc3.2]
  show vlet (isNeg (nrmD (-1) 0).1) _ = _
  rw [vl_dy, vl_dy]
  show gif _ (vlet (isNeg (nrmD (-1) 0).1) _) = _
  rw [gP (by omega), vl_dy, vl_dy, gP ⟨⟨dyok_of hn, dyok_of hn⟩, dyok_of hn, dyok_of hn⟩, vl, decide_eq_true rfl, decide_eq_true rfl]
  rfl

noncomputable def orc : Orc := orc0  sp
theorem fnok : FnOk Tryz.prog E 8 Tryz.f8 cod := fnOk ty_ok mixed (callsOk_of _ rfl (orcs_cons UReduce.ok (orcs_cons UExact.ok (orcs_cons UEnclose.ok (orcs_cons LSame.ok (orcs_cons LPoint.ok orcs_nil))))) (ext_ok)) Tryz.func8 rfl rfl rfl
theorem ok : OrcOk Tryz.prog base.glob 8 orc := fnok.ok0 spec
end LAwake
end Go.Proofs.YtfebndgmmekmgaaGreatDoor.W

/- gnomon/gnomonlaw17.TurnReduces -/
namespace Go.Proofs.YtfebndgmmekmgaaGreatDoor.W
open Go Go.Proofs.YtfebndgmmekmgaaGreatDoor.AI Go.Proofs.YtfebndgmmekmgaaGreatDoor.M
namespace LawReduces
noncomputable def E : Env := { ({ base with C := callsOf [(8, LAwake.orc), (9, UReduce.orc), (10, DocReduce17.orc), (11, Same5.orc)] }) with nt := 46, own := [], keep := fun k => (tlook [(4, [13, 14, 15])] k).getD [], cut := tlook [] }
noncomputable def cod : Code := (Go.Proofs.Tryz.f3.body).getD .skip
theorem nok : namesOk E cod = true := by kernel_rfl
noncomputable def L4 (xs0 : List Int) (x1 : Int) (x2 : Int) : Option (List D) := lpO E Go.Proofs.Tryz.f3 cod 4 [(A.v (V.one (L.s (S.ints IntKind.u64 xs0))), none), (A.v (V.one (L.s (S.sc (Value.int IntKind.i64 x1)))), none), (A.v (V.one (L.s (S.sc (Value.int IntKind.i64 x2)))), none)]
theorem start (a : List Int) : evalFn E Go.Proofs.Tryz.f3 cod [D.s (S.ints IntKind.u64 a)] = gif True (LawReduces.L4 a (↑a.length : Int) (0 : Int)) := (evalFn_J rfl nok _).trans (by kernel_rfl)
theorem L4_eq (xs0 : List Int) (x1 : Int) (x2 : Int) : L4 xs0 x1 x2 = bcase (decide (x2 < x1)) (if (0 : Int) ≤ x2 ∧ x2 < (↑xs0.length : Int) then gif ((0 : Int) ≤ xs0.getD x2.toNat (0 : Int) ∧ xs0.getD x2.toNat (0 : Int) < (18446744073709551616 : Int)) (vlet (bif BFinite.finB (64 : Int) (xs0.getD x2.toNat (0 : Int)) then UReduce.redK (UReduce.numV (xs0.getD x2.toNat (0 : Int))) % (4 : Int) else (0 : Int)) fun y0 => vlet (isNeg (bif BFinite.finB (64 : Int) (xs0.getD x2.toNat (0 : Int)) then UReduce.redD (UReduce.numV (xs0.getD x2.toNat (0 : Int))) else ((0 : Int), (0 : Int))).fst) fun y1 => vlet (M6.dg (bif BFinite.finB (64 : Int) (xs0.getD x2.toNat (0 : Int)) then UReduce.redD (UReduce.numV (xs0.getD x2.toNat (0 : Int))) else ((0 : Int), (0 : Int))).fst.natAbs) fun y2 => vlet (bif BFinite.finB (64 : Int) (xs0.getD x2.toNat (0 : Int)) then UReduce.redD (UReduce.numV (xs0.getD x2.toNat (0 : Int))) else ((0 : Int), (0 : Int))).snd fun y3 => vlet (bif BFinite.finB (64 : Int) (xs0.getD x2.toNat (0 : Int)) then (0 : Int) else (6 : Int)) fun y4 => gif ((0 : Int) ≤ xs0.getD x2.toNat (0 : Int) ∧ xs0.getD x2.toNat (0 : Int) < (18446744073709551616 : Int)) (vlet (bif BFinite.finB (64 : Int) (xs0.getD x2.toNat (0 : Int)) then UReduce.redK (UReduce.numV (xs0.getD x2.toNat (0 : Int))) % (4 : Int) else (0 : Int)) fun y5 => vlet (isNeg (bif BFinite.finB (64 : Int) (xs0.getD x2.toNat (0 : Int)) then UReduce.redD (UReduce.numV (xs0.getD x2.toNat (0 : Int))) else ((0 : Int), (0 : Int))).fst) fun y6 => vlet (M6.dg (bif BFinite.finB (64 : Int) (xs0.getD x2.toNat (0 : Int)) then UReduce.redD (UReduce.numV (xs0.getD x2.toNat (0 : Int))) else ((0 : Int), (0 : Int))).fst.natAbs) fun y7 => vlet (bif BFinite.finB (64 : Int) (xs0.getD x2.toNat (0 : Int)) then UReduce.redD (UReduce.numV (xs0.getD x2.toNat (0 : Int))) else ((0 : Int), (0 : Int))).snd fun y8 => vlet (bif BFinite.finB (64 : Int) (xs0.getD x2.toNat (0 : Int)) then (0 : Int) else (6 : Int)) fun y9 => bcase (y0 != y5) (some [D.s (S.sc (Value.bool false))]) (bcase (y4 != y9) (some [D.s (S.sc (Value.bool false))]) (gif (DyOk (y1, y2, y3) ∧ DyOk (y6, y7, y8)) (vlet (decide (dv (y1, y2, y3) = dv (y6, y7, y8))) fun y10 => bcase (!y10) (some [D.s (S.sc (Value.bool false))]) (LawReduces.L4 xs0 x1 (IntKind.i64.wrap (x2 + (1 : Int))))))))) else none) (some [D.s (S.sc (Value.bool true))]) := (loopAt_J rfl nok 4 _).trans (by kernel_rfl)
-- stuck: 0
end LawReduces
namespace LawReduces
theorem pin_red {b : Int} (h0 : 0 ≤ b) : PIn (bif BFinite.finB 64 b then UReduce.redD (UReduce.numV b) else ((0 : Int), (0 : Int))) := by
  cases hf : BFinite.finB 64 b with
  | false => exact ⟨by show bl 0 ≤ _; rw [bl_zero]; omega, ⟨by show (-1048576 : Int) ≤ 0; omega, by show (0 : Int) ≤ 1048576; omega⟩, fun _ => rfl, fun h => (h rfl).elim⟩
  | true =>
    obtain ⟨bm, e0, e1⟩ := DocReduce17.numF_lt h0 hf
    obtain ⟨_, bR⟩ := Split17.red_bl bm e0 e1
    exact pin_nrm (inD_of (by rw [show UReduce.numV b = UExact.numF 64 b from rfl]; omega) (by rw [show UReduce.numV b = UExact.numF 64 b from rfl]; omega)) (by rw [show UReduce.numV b = UExact.numF 64 b from rfl]; omega)
theorem L {a : List Int} (ha : M6.Dig a) (hl : a.length ≤ 9223372036854775807) : ∀ (d i : Nat), i + d = a.length → L4 a (a.length : Int) (i : Int) = some [D.s (.sc (.bool true))] := by
  intro d
  induction d with
  | zero => intro i hd; rw [L4_eq, bD_neg (by omega)]
  | succ d ih =>
    intro i hd
    have g := ha.get i
    have hp := pin_red g.1
    rw [L4_eq, bD_pos (by omega), if_pos (by omega), Int.toNat_natCast, gP g, vl, vl_dy, vl, gP g, vl, vl_dy, vl, bN_neg rfl, bN_neg rfl, gP ⟨dyok_of hp, dyok_of hp⟩, vl, decide_eq_true rfl, Bool.not_true, bF, wrap_i64 (by omega) (by omega)]
    exact ih (i + 1) (by omega)
noncomputable def sp (a : List Int) : Prop × List D := (M6.Dig a ∧ a.length ≤ 9223372036854775807, [.s (.sc (.bool true))])
theorem spec (a : List Int) (h : (sp a).1) : evalFn E Tryz.f3 cod [(pI .u64).put a] = some (sp a).2 :=
  (start a).trans ((gP trivial).trans (L h.1 h.2 a.length 0 (by omega)))

noncomputable def orc : Orc := orc1 (pI .u64) sp
theorem fnok : FnOk Tryz.prog E 3 Tryz.f3 cod := fnOk ty_ok mixed (callsOk_of _ rfl (orcs_cons LAwake.ok (orcs_cons UReduce.ok (orcs_cons DocReduce17.ok (orcs_cons Same5.ok orcs_nil)))) (ext_ok)) Tryz.func3 rfl rfl rfl
theorem ok : OrcOk Tryz.prog base.glob 3 orc := fnok.ok1 rfl spec
end LawReduces
end Go.Proofs.YtfebndgmmekmgaaGreatDoor.W

/- gnomon/gnomonlaw17.finite -/
namespace Go.Proofs.YtfebndgmmekmgaaGreatDoor.W
open Go Go.Proofs.YtfebndgmmekmgaaGreatDoor.AI Go.Proofs.YtfebndgmmekmgaaGreatDoor.M
namespace LFinite
noncomputable def E : Env := { (base) with nt := 6, own := [], keep := fun k => (tlook [] k).getD [], cut := tlook [] }
noncomputable def cod : Code := (Go.Proofs.Tryz.f14.body).getD .skip
theorem nok : namesOk E cod = true := by kernel_rfl
theorem start (a : Int) : evalFn E Go.Proofs.Tryz.f14 cod [D.s (S.sc (Value.int IntKind.u64 a))] = some [D.s (S.sc (Value.bool (decide (a.tmod (9223372036854775808 : Int) < (9218868437227405312 : Int)))))] := (evalFn_J rfl nok _).trans (by kernel_rfl)
-- stuck: 0
end LFinite
namespace LFinite
noncomputable def sp (b : Int) : Prop × List D := (0 ≤ b ∧ b < 18446744073709551616, [.s (.sc (.bool (BFinite.finB 64 b)))])
theorem spec (b : Int) (h : (sp b).1) : evalFn E Tryz.f14 cod [(pN .u64).put b] = some (sp b).2 := by
  have h : 0 ≤ b ∧ b < 18446744073709551616 := h
  refine (start b).trans ?_
  rw [Int.tmod_eq_emod_of_nonneg h.1]
  rfl

noncomputable def orc : Orc := orc1 (pN .u64) sp
theorem fnok : FnOk Tryz.prog E 14 Tryz.f14 cod := fnOk ty_ok mixed (callsOk_of _ rfl orcs_nil (ext_ok)) Tryz.func14 rfl rfl rfl
theorem ok : OrcOk Tryz.prog base.glob 14 orc := fnok.ok1 rfl spec
end LFinite
end Go.Proofs.YtfebndgmmekmgaaGreatDoor.W

/- gnomon/gnomonref01.DocForm -/
namespace Go.Proofs.YtfebndgmmekmgaaGreatDoor.W
open Go Go.Proofs.YtfebndgmmekmgaaGreatDoor.AI Go.Proofs.YtfebndgmmekmgaaGreatDoor.M
namespace DocForm1
noncomputable def E : Env := { (base) with nt := 20, own := [], keep := fun k => (tlook [] k).getD [], cut := tlook [] }
noncomputable def cod : Code := (Go.Proofs.Tryz.f56.body).getD .skip
theorem nok : namesOk E cod = true := by kernel_rfl
theorem start (a : List Int) : evalFn E Go.Proofs.Tryz.f56 cod [D.s (S.ints IntKind.u64 a)] = bcase (decide ((↑a.length : Int) ≤ (8192 : Int))) (bcase ((↑a.length : Int) == (0 : Int)) (some [D.s (S.sc (Value.bool true))]) (if (0 : Int) ≤ IntKind.i64.wrap ((↑a.length : Int) - (1 : Int)) ∧ IntKind.i64.wrap ((↑a.length : Int) - (1 : Int)) < (↑a.length : Int) then some [D.s (S.sc (Value.bool (a.getD (IntKind.i64.wrap ((↑a.length : Int) - (1 : Int))).toNat (0 : Int) != (0 : Int))))] else none)) (some [D.s (S.sc (Value.bool false))]) := (evalFn_J rfl nok _).trans (by kernel_rfl)
-- stuck: 0
end DocForm1
namespace DocForm1
noncomputable def sp (a : List Int) : Prop × List D := (M6.Nrm a ∧ a.length ≤ 8192, [.s (.sc (.bool true))])
theorem spec (a : List Int) (h : (sp a).1) : evalFn E Tryz.f56 cod [(pI .u64).put a] = some (sp a).2 := by
  obtain ⟨hn, hl⟩ := h
  refine (start a).trans ?_
  rw [bD_pos (by omega)]
  by_cases h0 : a.length = 0
  · rw [bE_pos (by omega)]
    rfl
  · rw [bE_neg (by omega), wrap_i64 (n := (a.length : Int) - 1) (by omega) (by omega), if_pos (by omega)]
    have e : ((a.length : Int) - 1).toNat = a.length - 1 := by omega
    have hg : a.getLast? = some (a.getD (a.length - 1) 0) := by
      rw [List.getLast?_eq_getElem?, List.getD_eq_getElem?_getD, List.getElem?_eq_getElem (by omega)]
      rfl
    have := hn.top hg
    rw [e, bne_iff_ne.2 this]
    rfl

noncomputable def orc : Orc := orc1 (pI .u64) sp
theorem fnok : FnOk Tryz.prog E 56 Tryz.f56 cod := fnOk ty_ok mixed (callsOk_of _ rfl orcs_nil (ext_ok)) Tryz.func56 rfl rfl rfl
theorem ok : OrcOk Tryz.prog base.glob 56 orc := fnok.ok1 rfl spec
end DocForm1
end Go.Proofs.YtfebndgmmekmgaaGreatDoor.W

/- gnomon/gnomonref05.DocForm -/
namespace Go.Proofs.YtfebndgmmekmgaaGreatDoor.W
open Go Go.Proofs.YtfebndgmmekmgaaGreatDoor.AI Go.Proofs.YtfebndgmmekmgaaGreatDoor.M
namespace DocForm5
noncomputable def E : Env := { ({ base with C := callsOf [(56, DocForm1.orc)] }) with nt := 39, own := [], keep := fun k => (tlook [] k).getD [], cut := tlook [(3, [1])] }
noncomputable def cod : Code := (Go.Proofs.Tryz.f18.body).getD .skip
theorem nok : namesOk E cod = true := by kernel_rfl
noncomputable def J3 (b0 : Bool) (xs1 : List Int) (x2 : Int) : Option (List D) := ctO E Go.Proofs.Tryz.f18 cod 3 [(A.v (V.one (L.ptr (0 : Nat) (0 : Nat))), some { e := (28 : Nat), cont := Cont.cells [S.sc (Value.bool b0), S.ints IntKind.u64 xs1, S.sc (Value.int IntKind.i64 x2)] })]
theorem start (a1 : Bool) (a2 : List Int) (a3 : Int) : evalFn E Go.Proofs.Tryz.f18 cod [D.agg [S.sc (Value.bool a1), S.ints IntKind.u64 a2, S.sc (Value.int IntKind.i64 a3)]] = gif (M6.Nrm a2 ∧ a2.length ≤ (8192 : Nat)) (bcase (decide (a3 < (-1048576 : Int))) (some [D.s (S.sc (Value.bool false))]) (bcase (decide ((1048576 : Int) < a3)) (some [D.s (S.sc (Value.bool false))]) (DocForm5.J3 a1 a2 a3))) := (evalFn_J rfl nok _).trans (by kernel_rfl)
theorem J3_eq (b0 : Bool) (xs1 : List Int) (x2 : Int) : J3 b0 xs1 x2 = bcase ((↑xs1.length : Int) == (0 : Int)) (bcase (!b0) (some [D.s (S.sc (Value.bool (x2 == (0 : Int))))]) (some [D.s (S.sc (Value.bool false))])) (if (0 : Int) ≤ (0 : Int) ∧ (0 : Int) < (↑xs1.length : Int) then some [D.s (S.sc (Value.bool (bitsI BinOp.and IntKind.u64 (xs1.getD (0 : Nat) (0 : Int)) (1 : Int) == (1 : Int))))] else none) := (cutAt_J rfl nok 3 _).trans (by kernel_rfl)
-- stuck: 0
end DocForm5
namespace DocForm5
noncomputable def sp (x : Bool × List Int × Int) : Prop × List D := (DyOk x, [.s (.sc (.bool true))])
theorem spec (x : Bool × List Int × Int) (h : (sp x).1) : evalFn E Tryz.f18 cod [(pG (.pair sB (.pair (sI .u64) (sN .i64)))).put x] = some (sp x).2 := by
  have h : DyOk x := h
  have hn := h.nrm
  refine (start x.1 x.2.1 x.2.2).trans ((gP ⟨hn, h.len⟩).trans ?_)
  obtain ⟨b, a, e⟩ := x
  obtain ⟨hw, he, h0, h1⟩ := h
  have hw2 := hw.2.1
  dsimp only at *
  have hz := M6.len_zero hn
  rw [bD_neg (by omega), bD_neg (by omega), J3_eq]
  by_cases hl : a.length = 0
  · have hv := hz.1 hl
    have hb : b = false := by
      cases b with
      | false => rfl
      | true => exact (hw2 rfl hv).elim
    rw [bE_pos (by omega), hb, h0 hv]
    rfl
  · rw [bE_neg (by omega), if_pos ⟨by omega, by omega⟩, DForm.odd_dig hn (h1 (fun hv => hl (hz.2 hv)))]
    rfl

noncomputable def orc : Orc := orc1 (pG (.pair sB (.pair (sI .u64) (sN .i64)))) sp
theorem fnok : FnOk Tryz.prog E 18 Tryz.f18 cod := fnOk ty_ok mixed (callsOk_of _ rfl (orcs_cons DocForm1.ok orcs_nil) (ext_ok)) Tryz.func18 rfl rfl rfl
theorem ok : OrcOk Tryz.prog base.glob 18 orc := fnok.ok1 rfl spec
end DocForm5
end Go.Proofs.YtfebndgmmekmgaaGreatDoor.W

/- gnomon/dyadic.Of -/
namespace Go.Proofs.YtfebndgmmekmgaaGreatDoor.W
open Go Go.Proofs.YtfebndgmmekmgaaGreatDoor.AI Go.Proofs.YtfebndgmmekmgaaGreatDoor.M
namespace DOf
noncomputable def E : Env := { ({ base with C := callsOf [(24, MOf.orc), (57, DMake.orc)] }) with nt := 12, own := [], keep := fun k => (tlook [] k).getD [], cut := tlook [] }
noncomputable def cod : Code := (Go.Proofs.Tryz.f19.body).getD .skip
theorem nok : namesOk E cod = true := by kernel_rfl
theorem start (a : Int) : evalFn E Go.Proofs.Tryz.f19 cod [D.s (S.sc (Value.int IntKind.i64 a))] = gif ((-9223372036854775808 : Int) ≤ a ∧ a < (9223372036854775808 : Int)) (gif (Wok (isNeg a, M6.dg a.natAbs) ∧ (-9223372036854775808 : Int) ≤ (0 : Int) ∧ (0 : Int) < (9223372036854775808 : Int)) (some [D.agg [S.sc (Value.bool (isNeg (bif inD (wv (isNeg a, M6.dg a.natAbs)) (0 : Int) then nrmD (wv (isNeg a, M6.dg a.natAbs)) (0 : Int) else ((0 : Int), (0 : Int))).fst)), S.ints IntKind.u64 (M6.dg (bif inD (wv (isNeg a, M6.dg a.natAbs)) (0 : Int) then nrmD (wv (isNeg a, M6.dg a.natAbs)) (0 : Int) else ((0 : Int), (0 : Int))).fst.natAbs), S.sc (Value.int IntKind.i64 (bif inD (wv (isNeg a, M6.dg a.natAbs)) (0 : Int) then nrmD (wv (isNeg a, M6.dg a.natAbs)) (0 : Int) else ((0 : Int), (0 : Int))).snd)]])) := (evalFn_J rfl nok _).trans (by kernel_rfl)
-- stuck: 0
end DOf
namespace DOf
noncomputable def sp (n : Int) : Prop × List D := (-9223372036854775808 ≤ n ∧ n < 9223372036854775808, [dD (nrmD n 0)])
theorem in_zero {n : Int} (h : bl n.natAbs ≤ 524288) : inD n 0 = true := by
  unfold inD
  by_cases hz : n = 0
  · rw [decide_eq_true hz, Bool.true_or]
  · have := tz_bl (n := n.natAbs) (by omega)
    rw [decide_eq_true (show (-1048576 ≤ 0 + ((tz n.natAbs : Nat) : Int)) by omega), decide_eq_true (show (0 + ((tz n.natAbs : Nat) : Int) ≤ 1048576) by omega), Bool.true_and, Bool.or_true]
theorem spec (n : Int) (h : (sp n).1) : evalFn E Tryz.f19 cod [(pN .i64).put n] = some (sp n).2 := by
  obtain ⟨h1, h2⟩ := h
  have hb : bl n.natAbs ≤ 64 := bl_le.2 (by omega)
  refine (start n).trans ?_
  rw [gP ⟨h1, h2⟩, gP ⟨wok_wD (by omega), by omega, by omega⟩, wv_wD, in_zero (by omega)]
  rfl

noncomputable def orc : Orc := orc1 (pN .i64) sp
theorem fnok : FnOk Tryz.prog E 19 Tryz.f19 cod := fnOk ty_ok mixed (callsOk_of _ rfl (orcs_cons MOf.ok (orcs_cons DMake.ok orcs_nil)) (ext_ok)) Tryz.func19 rfl rfl rfl
theorem ok : OrcOk Tryz.prog base.glob 19 orc := fnok.ok1 rfl spec
end DOf
end Go.Proofs.YtfebndgmmekmgaaGreatDoor.W

/- gnomon/gnomonlaw17.TurnSplits -/
namespace Go.Proofs.YtfebndgmmekmgaaGreatDoor.W
open Go Go.Proofs.YtfebndgmmekmgaaGreatDoor.AI Go.Proofs.YtfebndgmmekmgaaGreatDoor.M
namespace LawSplits
noncomputable def E : Env := { ({ base with C := callsOf [(8, LAwake.orc), (9, UReduce.orc), (14, LFinite.orc), (11, Same5.orc), (15, BValue.orc), (16, DSub.orc), (17, DScale.orc), (18, DocForm5.orc), (19, DOf.orc), (20, DNeg.orc), (21, DCmp.orc), (22, MShl.orc), (23, MMod.orc), (24, MOf.orc), (25, MSmall.orc)] }) with nt := 168, own := [46], keep := fun k => (tlook [] k).getD [], cut := tlook [(11, [3, 4, 10]), (17, [3, 10]), (21, [3, 10])] }
noncomputable def cod : Code := (Go.Proofs.Tryz.f5.body).getD .skip
theorem nok : namesOk E cod = true := by kernel_rfl
noncomputable def J11 (x0 : Int) (b1 : Bool) (xs2 : List Int) (x3 : Int) (b4 : Bool) (xs5 : List Int) (x6 : Int) : Option (List D) := ctO E Go.Proofs.Tryz.f5 cod 11 [(A.v (V.one (L.s (S.sc (Value.int IntKind.i64 x0)))), none), (A.v (V.one (L.ptr (1 : Nat) (0 : Nat))), some { e := (28 : Nat), cont := Cont.cells [S.sc (Value.bool b1), S.ints IntKind.u64 xs2, S.sc (Value.int IntKind.i64 x3)] }), (A.v (V.one (L.ptr (2 : Nat) (0 : Nat))), some { e := (28 : Nat), cont := Cont.cells [S.sc (Value.bool b4), S.ints IntKind.u64 xs5, S.sc (Value.int IntKind.i64 x6)] })]
noncomputable def J17 (x0 : Int) (b1 : Bool) (xs2 : List Int) (x3 : Int) : Option (List D) := ctO E Go.Proofs.Tryz.f5 cod 17 [(A.v (V.one (L.s (S.sc (Value.int IntKind.i64 x0)))), none), (A.v (V.one (L.ptr (1 : Nat) (0 : Nat))), some { e := (28 : Nat), cont := Cont.cells [S.sc (Value.bool b1), S.ints IntKind.u64 xs2, S.sc (Value.int IntKind.i64 x3)] })]
noncomputable def J21 (x0 : Int) (b1 : Bool) (xs2 : List Int) (x3 : Int) : Option (List D) := ctO E Go.Proofs.Tryz.f5 cod 21 [(A.v (V.one (L.s (S.sc (Value.int IntKind.i64 x0)))), none), (A.v (V.one (L.ptr (1 : Nat) (0 : Nat))), some { e := (28 : Nat), cont := Cont.cells [S.sc (Value.bool b1), S.ints IntKind.u64 xs2, S.sc (Value.int IntKind.i64 x3)] })]
theorem start (a : Int) : evalFn E Go.Proofs.Tryz.f5 cod [D.s (S.sc (Value.int IntKind.u64 a))] = gif True (gif ((0 : Int) ≤ a ∧ a < (18446744073709551616 : Int)) (vlet (bif BFinite.finB (64 : Int) a then UReduce.redK (UReduce.numV a) % (4 : Int) else (0 : Int)) fun y0 => vlet (isNeg (bif BFinite.finB (64 : Int) a then UReduce.redD (UReduce.numV a) else ((0 : Int), (0 : Int))).fst) fun y1 => vlet (M6.dg (bif BFinite.finB (64 : Int) a then UReduce.redD (UReduce.numV a) else ((0 : Int), (0 : Int))).fst.natAbs) fun y2 => vlet (bif BFinite.finB (64 : Int) a then UReduce.redD (UReduce.numV a) else ((0 : Int), (0 : Int))).snd fun y3 => vlet (bif BFinite.finB (64 : Int) a then (0 : Int) else (6 : Int)) fun y4 => gif ((0 : Int) ≤ a ∧ a < (18446744073709551616 : Int)) (vlet (BFinite.finB (64 : Int) a) fun y5 => bcase (!y5) (bcase (y4 == (6 : Int)) (bcase (y0 == (0 : Int)) (gif (DyOk (y1, y2, y3) ∧ DyOk (false, [], (0 : Int))) (vlet (decide (dv (y1, y2, y3) = dv (false, [], Int.ofNat (nat_lit 0)))) fun y6 => some [D.s (S.sc (Value.bool y6))])) (some [D.s (S.sc (Value.bool false))])) (some [D.s (S.sc (Value.bool false))])) (gif (((64 : Int) = (32 : Int) ∨ (64 : Int) = (64 : Int)) ∧ (0 : Int) ≤ a ∧ a < (18446744073709551616 : Int)) (vlet (isNeg (bif BTake.patB (64 : Int) a && BFinite.finB (64 : Int) a then nrmD (BValue.valZ (64 : Int) a) (BValue.valE (64 : Int) a) else ((0 : Int), (0 : Int))).fst) fun y7 => vlet (M6.dg (bif BTake.patB (64 : Int) a && BFinite.finB (64 : Int) a then nrmD (BValue.valZ (64 : Int) a) (BValue.valE (64 : Int) a) else ((0 : Int), (0 : Int))).fst.natAbs) fun y8 => vlet (bif BTake.patB (64 : Int) a && BFinite.finB (64 : Int) a then nrmD (BValue.valZ (64 : Int) a) (BValue.valE (64 : Int) a) else ((0 : Int), (0 : Int))).snd fun y9 => vlet (bif BTake.patB (64 : Int) a then bif BFinite.finB (64 : Int) a then (0 : Int) else (6 : Int) else (2 : Int)) fun y10 => gif (DyOk (y7, y8, y9) ∧ DyOk (y1, y2, y3)) (vlet (isNeg (bif DAdd.addOk (dv (y7, y8, y9)) (-(dv (y1, y2, y3)).fst, (dv (y1, y2, y3)).snd) then DAdd.addD (dv (y7, y8, y9)) (-(dv (y1, y2, y3)).fst, (dv (y1, y2, y3)).snd) else ((0 : Int), (0 : Int))).fst) fun y11 => vlet (M6.dg (bif DAdd.addOk (dv (y7, y8, y9)) (-(dv (y1, y2, y3)).fst, (dv (y1, y2, y3)).snd) then DAdd.addD (dv (y7, y8, y9)) (-(dv (y1, y2, y3)).fst, (dv (y1, y2, y3)).snd) else ((0 : Int), (0 : Int))).fst.natAbs) fun y12 => vlet (bif DAdd.addOk (dv (y7, y8, y9)) (-(dv (y1, y2, y3)).fst, (dv (y1, y2, y3)).snd) then DAdd.addD (dv (y7, y8, y9)) (-(dv (y1, y2, y3)).fst, (dv (y1, y2, y3)).snd) else ((0 : Int), (0 : Int))).snd fun y13 => vlet (bif DAdd.addOk (dv (y7, y8, y9)) (-(dv (y1, y2, y3)).fst, (dv (y1, y2, y3)).snd) then (0 : Int) else (5 : Int)) fun y14 => gif (DyOk (y11, y12, y13) ∧ (-9223372036854775808 : Int) ≤ (1 : Int) ∧ (1 : Int) < (9223372036854775808 : Int)) (vlet (isNeg (bif DScale.scOk (dv (y11, y12, y13)) (1 : Int) then DScale.scD (dv (y11, y12, y13)) (1 : Int) else ((0 : Int), (0 : Int))).fst) fun y15 => vlet (M6.dg (bif DScale.scOk (dv (y11, y12, y13)) (1 : Int) then DScale.scD (dv (y11, y12, y13)) (1 : Int) else ((0 : Int), (0 : Int))).fst.natAbs) fun y16 => vlet (bif DScale.scOk (dv (y11, y12, y13)) (1 : Int) then DScale.scD (dv (y11, y12, y13)) (1 : Int) else ((0 : Int), (0 : Int))).snd fun y17 => vlet (bif DScale.scOk (dv (y11, y12, y13)) (1 : Int) then (0 : Int) else (5 : Int)) fun y18 => bcase (y4 != (0 : Int)) (some [D.s (S.sc (Value.bool false))]) (bcase (y10 != (0 : Int)) (some [D.s (S.sc (Value.bool false))]) (bcase (y14 != (0 : Int)) (some [D.s (S.sc (Value.bool false))]) (bcase (y18 != (0 : Int)) (some [D.s (S.sc (Value.bool false))]) (gif (DyOk (y1, y2, y3)) (LawSplits.J11 y0 y1 y2 y3 y15 y16 y17)))))))))))) := (evalFn_J rfl nok _).trans (by kernel_rfl)
theorem J11_eq (x0 : Int) (b1 : Bool) (xs2 : List Int) (x3 : Int) (b4 : Bool) (xs5 : List Int) (x6 : Int) : J11 x0 b1 xs2 x3 b4 xs5 x6 = gif ((-9223372036854775808 : Int) ≤ (1 : Int) ∧ (1 : Int) < (9223372036854775808 : Int)) (vlet (isNeg (nrmD (1 : Int) (0 : Int)).fst) fun y19 => vlet (M6.dg (nrmD (1 : Int) (0 : Int)).fst.natAbs) fun y20 => vlet (nrmD (1 : Int) (0 : Int)).snd fun y21 => gif (DyOk (y19, y20, y21) ∧ (-9223372036854775808 : Int) ≤ (-2 : Int) ∧ (-2 : Int) < (9223372036854775808 : Int)) (vlet (isNeg (bif DScale.scOk (dv (y19, y20, y21)) (-2 : Int) then DScale.scD (dv (y19, y20, y21)) (-2 : Int) else ((0 : Int), (0 : Int))).fst) fun y22 => vlet (M6.dg (bif DScale.scOk (dv (y19, y20, y21)) (-2 : Int) then DScale.scD (dv (y19, y20, y21)) (-2 : Int) else ((0 : Int), (0 : Int))).fst.natAbs) fun y23 => vlet (bif DScale.scOk (dv (y19, y20, y21)) (-2 : Int) then DScale.scD (dv (y19, y20, y21)) (-2 : Int) else ((0 : Int), (0 : Int))).snd fun y24 => gif (DyOk (y22, y23, y24)) (vlet (isNeg (-(dv (y22, y23, y24)).fst, (dv (y22, y23, y24)).snd).fst) fun y26 => vlet (M6.dg (-(dv (y22, y23, y24)).fst, (dv (y22, y23, y24)).snd).fst.natAbs) fun y27 => vlet (-(dv (y22, y23, y24)).fst, (dv (y22, y23, y24)).snd).snd fun y28 => gif (DyOk (b1, xs2, x3) ∧ DyOk (y26, y27, y28)) (vlet (cmpZ (DAdd.addX (dv (b1, xs2, x3)) (dv (y26, y27, y28))) (DAdd.addY (dv (b1, xs2, x3)) (dv (y26, y27, y28)))) fun y29 => gif (DyOk (b1, xs2, x3) ∧ DyOk (y22, y23, y24)) (vlet (cmpZ (DAdd.addX (dv (b1, xs2, x3)) (dv (y22, y23, y24))) (DAdd.addY (dv (b1, xs2, x3)) (dv (y22, y23, y24)))) fun y30 => bcase (decide (y29 < (0 : Int))) (some [D.s (S.sc (Value.bool false))]) (bcase (decide ((0 : Int) ≤ y30)) (some [D.s (S.sc (Value.bool false))]) (LawSplits.J17 x0 b4 xs5 x6))))))) := (cutAt_J rfl nok 11 _).trans (by kernel_rfl)
theorem J17_eq (x0 : Int) (b1 : Bool) (xs2 : List Int) (x3 : Int) : J17 x0 b1 xs2 x3 = bcase (decide (x3 < (0 : Int))) (some [D.s (S.sc (Value.bool false))]) (bcase (decide ((2 : Int) ≤ x3)) (some [D.s (S.sc (Value.bool (x0 == (0 : Int))))]) (bcase ((↑xs2.length : Int) == (0 : Int)) (some [D.s (S.sc (Value.bool (x0 == (0 : Int))))]) (LawSplits.J21 x0 b1 xs2 x3))) := (cutAt_J rfl nok 17 _).trans (by kernel_rfl)
theorem J21_eq (x0 : Int) (b1 : Bool) (xs2 : List Int) (x3 : Int) : J21 x0 b1 xs2 x3 = gif (Wok (b1, xs2) ∧ (0 : Int) ≤ x3 ∧ x3 < (4611686018427387904 : Int)) (vlet (isNeg (bif fit (M6.val (b1, xs2).snd * (2 : Nat) ^ x3.toNat) then wv (b1, xs2) * (↑((2 : Nat) ^ x3.toNat) : Int) else (0 : Int))) fun y31 => vlet (M6.dg (bif fit (M6.val (b1, xs2).snd * (2 : Nat) ^ x3.toNat) then wv (b1, xs2) * (↑((2 : Nat) ^ x3.toNat) : Int) else (0 : Int)).natAbs) fun y32 => vlet (bif fit (M6.val (b1, xs2).snd * (2 : Nat) ^ x3.toNat) then (0 : Int) else (5 : Int)) fun y33 => gif ((-9223372036854775808 : Int) ≤ (4 : Int) ∧ (4 : Int) < (9223372036854775808 : Int)) (gif (Wok (y31, y32) ∧ Wok (isNeg (4 : Int), M6.dg (4 : Nat)) ∧ (isNeg (4 : Int), M6.dg (4 : Nat)).fst = false ∧ (isNeg (4 : Int), M6.dg (4 : Nat)).snd.length = (1 : Nat)) (vlet (isNeg (wv (y31, y32) % wv (isNeg (4 : Int), M6.dg (4 : Nat)))) fun y34 => vlet (M6.dg (wv (y31, y32) % wv (isNeg (4 : Int), M6.dg (4 : Nat))).natAbs) fun y35 => gif (Wok (y34, y35)) (vlet (bif MSmall.smallB (wv (y34, y35)) then wv (y34, y35) else (0 : Int)) fun y36 => vlet (bif MSmall.smallB (wv (y34, y35)) then (0 : Int) else (5 : Int)) fun y37 => bcase (y33 == (0 : Int)) (bcase (y37 == (0 : Int)) (some [D.s (S.sc (Value.bool (y36 == x0)))]) (some [D.s (S.sc (Value.bool false))])) (some [D.s (S.sc (Value.bool false))]))))) := (cutAt_J rfl nok 21 _).trans (by kernel_rfl)
-- stuck: 0
end LawSplits
namespace LawSplits
noncomputable def sp (b : Int) : Prop × List D := (0 ≤ b ∧ b < 18446744073709551616, [.s (.sc (.bool true))])
theorem ok0 : DyOk (false, [], 0) := ⟨⟨M6.nrm_nil, fun h => Bool.noConfusion h, by simp⟩, by dsimp only; omega, fun _ => rfl, fun h => (h rfl).elim⟩
theorem w4 : Wok (isNeg 4, M6.dg 4) := wok_wD (z := 4) (Nat.le_trans (bl_le.2 (show (4 : Int).natAbs < 2 ^ 3 by decide)) (by omega))
theorem l4 : (M6.dg 4).length = 1 := by
  have h1 := M6.len_dg_le (n := 4) (k := 1) (by decide)
  have h2 : (M6.dg 4).length ≠ 0 := fun h => by have := M6.dg_len_zero.1 h; omega
  omega
/-- The floor, and what is left. -/
theorem red_range {m e : Int} (he : e < 0) : -p2 (-1 - e) ≤ UReduce.redR (m, e) ∧ UReduce.redR (m, e) < p2 (-1 - e) := by
  unfold UReduce.redR UReduce.redK
  dsimp only
  rw [if_neg (by omega), if_neg (by omega)]
  have h1 : p2 (-e) = p2 (-1 - e) * 2 := by
    have := p2_add (m := -1 - e) (n := 1) (by omega) (by omega)
    rwa [show -1 - e + 1 = -e by omega] at this
  have h2 : p2 (1 - e) = p2 (-1 - e) * 4 := by
    have := p2_add (m := -1 - e) (n := 2) (by omega) (by omega)
    rwa [show -1 - e + 2 = 1 - e by omega] at this
  rw [h1, h2]
  have hp := p2_pos (-1 - e)
  generalize p2 (-1 - e) = v at *
  have a1 := Int.mul_ediv_add_emod (m * 4 + v * 2) (v * 4)
  have a2 := Int.emod_nonneg (m * 4 + v * 2) (show v * 4 ≠ 0 by omega)
  have a3 := Int.emod_lt_of_pos (m * 4 + v * 2) (show 0 < v * 4 by omega)
  generalize (m * 4 + v * 2) / (v * 4) = K at *
  have e1 : v * 4 * K = K * v * 4 := by rw [Int.mul_comm, Int.mul_assoc]
  have e2 : K * (v * 2) = K * v * 2 := by rw [Int.mul_assoc]
  rw [e1] at a1
  rw [e2]
  generalize K * v = t at *
  omega
theorem j17 {K : Int} (bK : bl K.natAbs ≤ 1200) : J17 (K % 4) (isNeg (nrmD K 0).1) (M6.dg (nrmD K 0).1.natAbs) (nrmD K 0).2 = some [.s (.sc (.bool true))] := by
  have gK := nrmD_grid0 (z := K) (e := 0) (G := 0) (by omega)
  rw [Int.sub_self, Int.sub_zero, p2_zero, Int.mul_one] at gK
  have hk0 : 0 ≤ (nrmD K 0).2 := by
    by_cases hz : K = 0
    · rw [hz, nrmD_zero]; exact Int.le_refl 0
    · exact nrmD_ge hz
  have p5 : PIn (nrmD K 0) := pin_nrm (inD_of (by omega) (by omega)) (by omega)
  rw [J17_eq, bD_neg (by omega)]
  by_cases c1 : 2 ≤ (nrmD K 0).2
  · have : K % 4 = 0 := by
      have e9 : p2 (nrmD K 0).2 = p2 ((nrmD K 0).2 - 2) * 4 := by
        have := p2_add (m := (nrmD K 0).2 - 2) (n := 2) (by omega) (by omega)
        rwa [show (nrmD K 0).2 - 2 + 2 = (nrmD K 0).2 by omega] at this
      rw [e9, ← Int.mul_assoc] at gK
      generalize (nrmD K 0).1 * p2 ((nrmD K 0).2 - 2) = q at *
      omega
    rw [bD_pos c1, this]
    rfl
  · rw [bD_neg c1]
    by_cases c2 : (M6.dg (nrmD K 0).1.natAbs).length = 0
    · have : (nrmD K 0).1 = 0 := by have := M6.dg_len_zero.1 c2; omega
      rw [bE_pos (by omega), nrmD_one_zero.1 this]
      rfl
    · have hvK : M6.val (M6.dg (nrmD K 0).1.natAbs) = (nrmD K 0).1.natAbs := M6.val_dg _
      have hfit : fit (M6.val (M6.dg (nrmD K 0).1.natAbs) * 2 ^ (nrmD K 0).2.toNat) = true := by
        rw [hvK, ← abs_p2, gK]
        exact decide_eq_true (by omega)
      have e8 : (bif true then (nrmD K 0).1 * ((2 ^ (nrmD K 0).2.toNat : Nat) : Int) else (0 : Int)) = K := gK
      have e4 : wv (isNeg 4, M6.dg 4) = 4 := wv_wD 4
      have hr : 0 ≤ K % 4 ∧ K % 4 < 4 := by omega
      have hb : bl (K % 4).natAbs ≤ 3 := bl_le.2 (by omega)
      have hs : MSmall.smallB (K % 4) = true := by unfold MSmall.smallB; rw [decide_eq_true (by omega), decide_eq_true (by omega)]; rfl
      rw [bE_neg (by omega), J21_eq, gP ⟨(dyok_of p5).wok, hk0, by omega⟩]
      dsimp only
      rw [hfit, wv_wD, e8, vl, vl, vl, gP (by omega), gP ⟨wok_wD (by omega), w4, rfl, l4⟩, wv_wD, e4, vl, vl, gP (wok_wD (by omega)), wv_wD, hs, vl, vl, cond_true, bE_pos rfl, cond_true, bE_pos rfl, beq_self_eq_true]
theorem spec (b : Int) (h : (sp b).1) : evalFn E Tryz.f5 cod [(pN .u64).put b] = some (sp b).2 := by
  have h : 0 ≤ b ∧ b < 18446744073709551616 := h
  have hpr := LawReduces.pin_red h.1
  refine (start b).trans ((gP trivial).trans ((gP h).trans ?_))
  rw [vl, vl_dy, vl, gP h, vl]
  cases hf : BFinite.finB 64 b with
  | false =>
    rw [hf] at hpr
    rw [Bool.not_false, bT, cond_false, cond_false, bE_pos rfl, cond_false, bE_pos rfl, gP ⟨dyok_of hpr, ok0⟩, vl]
    have : dv (isNeg ((0 : Int), (0 : Int)).1, M6.dg ((0 : Int), (0 : Int)).1.natAbs, ((0 : Int), (0 : Int)).2) = dv (false, [], 0) := by
      rw [dv_cells]; rfl
    show some [D.s (.sc (.bool (decide (dv _ = dv (false, [], 0)))))] = _
    rw [decide_eq_true this]
    rfl
  | true =>
    rw [hf] at hpr
    have hp : BTake.patB 64 b = true := rfl
    have e1 : (bif BTake.patB 64 b && true then nrmD (BValue.valZ 64 b) (BValue.valE 64 b) else ((0 : Int), (0 : Int))) = UExact.numF 64 b := by rw [hp]; rfl
    have e2 : (bif BTake.patB 64 b then (0 : Int) else 2) = 0 := by rw [hp]; rfl
    have hx := (UExact.numF_pin (.inr rfl) h.1 hf).1
    obtain ⟨bm, h0, h1⟩ := DocReduce17.numF_lt h.1 hf
    rw [show UReduce.numV b = UExact.numF 64 b from rfl] at *
    rw [Bool.not_true, bF, cond_true, cond_true, gP ⟨.inr rfl, h⟩, e1, e2, vl_dy, vl]
    dsimp only [cond_true] at hpr ⊢
    generalize UExact.numF 64 b = p at *
    obtain ⟨bK, bR⟩ := Split17.red_bl bm h0 h1
    obtain ⟨m, e⟩ := p
    have hs : nrmD m e = (m, e) := hx.same
    dsimp only at bm h0 h1
    have hK : UReduce.redK (m, e) = if 0 ≤ e then m * p2 (e + 1) else (m * 4 + p2 (-e)) / p2 (1 - e) := rfl
    have hR : UReduce.redR (m, e) = if 0 ≤ e then 0 else m * 2 - UReduce.redK (m, e) * p2 (-e) := rfl
    have hD : UReduce.redD (m, e) = nrmD (UReduce.redR (m, e)) (e - 1) := rfl
    have hrange : e < 0 → -p2 (-1 - e) ≤ UReduce.redR (m, e) ∧ UReduce.redR (m, e) < p2 (-1 - e) := red_range
    rw [hD] at hpr ⊢
    generalize UReduce.redK (m, e) = K at *
    generalize UReduce.redR (m, e) = R at *
    -- x - r is half of K
    have bm2 : bl (m * p2 (e - (e - 1))).natAbs ≤ 54 := bl_p2 (n := e - (e - 1)) (k := 1) bm (by omega)
    have bR2 : bl (-R * p2 (e - 1 - (e - 1))).natAbs ≤ 2400 := bl_p2 (n := e - 1 - (e - 1)) (k := 0) (bl_neg bR) (by omega)
    have hsub : DAdd.addOk (nrmD m e) (nrmD (-R) (e - 1)) = true ∧ DAdd.addD (nrmD m e) (nrmD (-R) (e - 1)) = nrmD K (-1) := by
      refine ⟨addOk_nrm (G := e - 1) (by omega) (by omega) (by omega) (by omega) (by omega) (by omega), ?_⟩
      rw [addD_nrm (G := e - 1) (by omega) (by omega), show e - (e - 1) = 1 by omega, show e - 1 - (e - 1) = 0 by omega, p2_zero, Int.mul_one, p2_one, hR]
      by_cases hc : 0 ≤ e
      · rw [if_pos hc, hK, if_pos hc, nrmD_p2 _ _ (by omega), show -1 + (e + 1) = e by omega, Int.neg_zero, Int.add_zero]
        have := nrmD_p2 m (e - 1) (k := 1) (by omega)
        rw [p2_one, show e - 1 + 1 = e by omega] at this
        exact this
      · rw [if_neg hc, show m * 2 + -(m * 2 - K * p2 (-e)) = K * p2 (-e) by omega, nrmD_p2 _ _ (by omega), show e - 1 + -e = -1 by omega]
    have p6 : PIn (nrmD K (-1)) := pin_nrm (inD_of (by omega) (by omega)) (by omega)
    have e3 : (bif DAdd.addOk (nrmD m e) (nrmD (-R) (e - 1)) then DAdd.addD (nrmD m e) (nrmD (-R) (e - 1)) else ((0 : Int), (0 : Int))) = nrmD K (-1) := by rw [hsub.1, hsub.2]; rfl
    have e4 : (bif DScale.scOk (nrmD K (-1)) 1 then DScale.scD (nrmD K (-1)) 1 else ((0 : Int), (0 : Int))) = nrmD K 0 := by rw [scOk_nrm (by omega) (by omega), scD_nrm]; rfl
    have e5 : (bif DScale.scOk (nrmD K (-1)) 1 then (0 : Int) else 5) = 0 := by rw [scOk_nrm (by omega) (by omega)]; rfl
    have e6 : (bif DAdd.addOk (nrmD m e) (nrmD (-R) (e - 1)) then (0 : Int) else 5) = 0 := by rw [hsub.1]; rfl
    have dx : DyOk (isNeg (m, e).1, M6.dg (m, e).1.natAbs, (m, e).2) := dyok_of hx
    rw [gP ⟨dx, dyok_of hpr⟩, dv_cells, dv_cells, ← nrmD_neg, ← hs, e3, e6, vl_dy, vl, gP ⟨dyok_of p6, by omega, by omega⟩, dv_cells, e4, e5, vl_dy, vl, bN_neg rfl, bN_neg rfl, bN_neg rfl, bN_neg rfl, gP (dyok_of hpr), J11_eq, gP (by omega), vl_dy]
    -- the quarter, and minus the quarter
    have b1 := bl_one
    have q1 : PIn (nrmD 1 0) := pin_nrm (inD_of (by omega) (by omega)) (by omega)
    have q2 : PIn (nrmD 1 (-2)) := pin_nrm (inD_of (by omega) (by omega)) (by omega)
    have q3 : PIn (nrmD (-1) (-2)) := pin_nrm (inD_of (by omega) (by have := bl_neg b1; omega)) (by have := bl_neg b1; omega)
    have e7 : (bif DScale.scOk (nrmD 1 0) (-2) then DScale.scD (nrmD 1 0) (-2) else ((0 : Int), (0 : Int))) = nrmD 1 (-2) := by rw [scOk_nrm (by omega) (by omega), scD_nrm]; rfl
    rw [gP ⟨dyok_of q1, by omega, by omega⟩, dv_cells, e7, vl_dy, gP (dyok_of q2), dv_cells, ← nrmD_neg, vl_dy, gP ⟨dyok_of hpr, dyok_of q3⟩, dv_cells, dv_cells, vl, gP ⟨dyok_of hpr, dyok_of q2⟩, vl]
    have hcmp : ¬ cmpZ (DAdd.addX (nrmD R (e - 1)) (nrmD (-1) (-2))) (DAdd.addY (nrmD R (e - 1)) (nrmD (-1) (-2))) < 0 ∧ ¬ 0 ≤ cmpZ (DAdd.addX (nrmD R (e - 1)) (nrmD 1 (-2))) (DAdd.addY (nrmD R (e - 1)) (nrmD 1 (-2))) := by
      by_cases hc : 0 ≤ e
      · have hR0 : R = 0 := by rw [hR, if_pos hc]
        have : nrmD R (e - 1) = nrmD 0 (-2) := by rw [hR0, nrmD_zero, nrmD_zero]
        rw [this, cmpD_nrm (G := -2) (by omega) (by omega), cmpD_nrm (G := -2) (by omega) (by omega)]
        exact ⟨by decide, by decide⟩
      · obtain ⟨r1, r2⟩ := hrange (by omega)
        rw [cmpD_nrm (G := e - 1) (by omega) (by omega), cmpD_nrm (G := e - 1) (by omega) (by omega), show e - 1 - (e - 1) = 0 by omega, p2_zero, Int.mul_one, show -2 - (e - 1) = -1 - e by omega, Int.neg_mul, Int.one_mul]
        generalize p2 (-1 - e) = v at *
        unfold cmpZ
        constructor
        · rw [if_neg (by omega)]; split <;> omega
        · rw [if_pos (by omega)]; omega
    rw [bD_neg hcmp.1, bD_neg hcmp.2]
    exact j17 bK

noncomputable def orc : Orc := orc1 (pN .u64) sp
theorem fnok : FnOk Tryz.prog E 5 Tryz.f5 cod := fnOk ty_ok mixed (callsOk_of _ rfl (orcs_cons LAwake.ok (orcs_cons UReduce.ok (orcs_cons LFinite.ok (orcs_cons Same5.ok (orcs_cons BValue.ok (orcs_cons DSub.ok (orcs_cons DScale.ok (orcs_cons DocForm5.ok (orcs_cons DOf.ok (orcs_cons DNeg.ok (orcs_cons DCmp.ok (orcs_cons MShl.ok (orcs_cons MMod.ok (orcs_cons MOf.ok (orcs_cons MSmall.ok orcs_nil))))))))))))))) (ext_ok)) Tryz.func5 rfl rfl rfl
theorem ok : OrcOk Tryz.prog base.glob 5 orc := fnok.ok1 rfl spec
end LawSplits
end Go.Proofs.YtfebndgmmekmgaaGreatDoor.W

/- What is handed in, as the abstract interpreter reads it; and a table that lies ready. -/
namespace Go.Proofs.YtfebndgmmekmgaaGreatDoor.AI
open Go Go.RowKit Go.ChangeShapes Go.WideShapes Go.ChangeAt

abbrev noX : Nat → Prop := fun _ => False
theorem cell_at {w : World} {a : Addr} {v : Value} (h : w.cell? a = some v) : a = ⟨a.block, a.off, none⟩ ∧ a.block < w.heap.size := by
  unfold World.cell? at h
  split at h
  · rename_i c t fr hb
    split at h
    · cases h
    · rename_i hs
      obtain ⟨b, o, s⟩ := a
      cases s with
      | some x => simp at hs
      | none => exact ⟨rfl, (Array.getElem?_eq_some_iff.1 hb).1⟩
  · cases h
theorem add_at {b o : Nat} (i : Nat) : (⟨b, o, none⟩ : Addr).add i = ⟨b, o + i, none⟩ := by
  unfold Addr.add
  split
  · rename_i h; subst h; rfl
  · rfl

section
variable {H : Type} {enc : TypeId × Value → H} {P : Program} {w : World} {held : Bool} {sp : Nat → Bool}
/-- A slice of whole numbers that is handed in. -/
theorem rep_ints {t e : TypeId} {k : IntKind} {fuel : Nat} {A : Option Addr} {len cap : Nat} {x : DataW H × List MemPlace} (ht : P.underlying t = some (.slice e)) (he : P.underlying e = some (.int k)) (hc : P.cellsOf e = 1)
    (h : DataW.trod enc P w 0 sp held fuel t [.slice A len cap] = some x) : ∃ ns : List Int, RepD noX w (.s (.ints k ns)) (.slice A len cap) ∧ ns.length ≤ 9223372036854775807 ∧ ∀ n ∈ ns, (Lit.int k n).wf = true := by
  rcases open_ints ht he hc h with ⟨hcs, _⟩ | ⟨a, l, c, zs, hcs, _, hl, hm, hz, _, hcell, hw⟩
  · simp at hcs
    obtain ⟨rfl, rfl, rfl⟩ := hcs
    exact ⟨[], ⟨none, 0, rfl, by simp, fun i n h => by simp at h⟩, by simp, by simp⟩
  · simp at hcs
    obtain ⟨rfl, rfl, rfl⟩ := hcs
    have hzl : len ≤ zs.length := by rw [hz]; split <;> omega
    have hlen : (zs.take len).length = len := by rw [List.length_take]; omega
    have hm2 : cap ≤ 9223372036854775807 := hm
    refine ⟨zs.take len, ⟨some a, cap, by rw [hlen], by rw [hlen]; exact hl, fun i n hn => ?_⟩, by omega, fun n hn => hw n (List.mem_of_mem_take hn)⟩
    have hi : i < len := by
      have := (List.getElem?_eq_some_iff.1 hn).1
      omega
    have h0 := hcell 0 (by omega)
    have ha : a.add 0 = a := by unfold Addr.add; rw [if_pos rfl]
    rw [ha] at h0
    obtain ⟨e1, e2⟩ := cell_at h0
    refine ⟨a.block, a.off, by rw [← e1], e2, id, ?_⟩
    have h1 := hcell i (by omega)
    rw [e1, add_at] at h1
    rw [h1]
    have : zs.getD i 0 = n := by
      rw [List.getElem?_take, if_pos hi] at hn
      rw [List.getD_eq_getElem?_getD, hn]
      rfl
    rw [this]

/-- Are a struct's fields whole numbers of these kinds, one cell each? -/
def fieldsB (P : Program) (fs : Array Field) (ks : List IntKind) : Bool :=
  Nat.beq fs.size ks.length && (List.range ks.length).all fun i => match fs[i]?, ks[i]? with
    | some f, some k => (match P.underlying f.type with | some (.int k') => decide (k' = k) | _ => false) && (Nat.beq (P.cellsOf f.type) 1 && Nat.beq f.offset i)
    | _, _ => false
def numOfV : Value → Int
  | .int _ n => n
  | _ => 0
def wfAll (ks : List IntKind) (ns : List Int) : Prop := ns.length = ks.length ∧ ∀ (i : Nat) k, ks[i]? = some k → (Lit.int k (ns.getD i 0)).wf = true
theorem struct_ints {t : TypeId} {fs : Array Field} {ks : List IntKind} {fuel : Nat} {cs : List Value} {x : DataW H × List MemPlace} (ht : P.underlying t = some (.struct fs)) (hk : fieldsB P fs ks = true) (hc : P.cellsOf t = ks.length)
    (h : DataW.trod enc P w 0 sp held fuel t cs = some x) : ∃ ns : List Int, wfAll ks ns ∧ cs.length = ks.length ∧ ∀ (i : Nat) k, ks[i]? = some k → cs[i]? = some (.int k (ns.getD i 0)) := by
  obtain ⟨xs, n, _, _, hl, hxl, hf⟩ := DataW.trod_struct ht h
  unfold fieldsB at hk
  rw [Bool.and_eq_true] at hk
  have hsz := Nat.eq_of_beq_eq_true hk.1
  have key : ∀ (i : Nat) k, ks[i]? = some k → ∃ m, cs[i]? = some (.int k m) ∧ (Lit.int k m).wf = true := by
    intro i k hi
    have hlt : i < ks.length := (List.getElem?_eq_some_iff.1 hi).1
    have h1 := List.all_eq_true.1 hk.2 i (List.mem_range.2 hlt)
    have hfi : fs[i]? = some fs[i] := Array.getElem?_eq_getElem (by omega)
    rw [hfi, hi] at h1
    simp only [Bool.and_eq_true] at h1
    obtain ⟨h2, h3, h4⟩ := h1
    have h3 := Nat.eq_of_beq_eq_true h3
    have h4 := Nat.eq_of_beq_eq_true h4
    have h5 := hf i _ hfi
    rw [h3, h4] at h5
    have hx : xs[i]? = some xs[i] := List.getElem?_eq_getElem (by omega)
    rw [hx] at h5
    cases hu : P.underlying fs[i].type with
    | none => rw [hu] at h2; cases h2
    | some d =>
      rw [hu] at h2
      cases d with
      | int k' =>
        have hkk : k' = k := of_decide_eq_true h2
        subst hkk
        obtain ⟨m, e1, _, e3⟩ := DataW.trod_int hu h5
        refine ⟨m, ?_, e3⟩
        have : ((cs.drop i).take 1)[0]? = some (.int k' m) := by rw [e1]; rfl
        rw [List.getElem?_take, if_pos (by omega), List.getElem?_drop] at this
        simpa using this
      | _ => cases h2
  refine ⟨cs.map numOfV, ⟨by rw [List.length_map, hl, hc], fun i k hi => ?_⟩, by rw [hl, hc], fun i k hi => ?_⟩
  · obtain ⟨m, e1, e2⟩ := key i k hi
    have : (cs.map numOfV).getD i 0 = m := by rw [List.getD_eq_getElem?_getD, List.getElem?_map, e1]; rfl
    rw [this]; exact e2
  · obtain ⟨m, e1, e2⟩ := key i k hi
    have : (cs.map numOfV).getD i 0 = m := by rw [List.getD_eq_getElem?_getD, List.getElem?_map, e1]; rfl
    rw [this]; exact e1

/-- The cells of such a struct. -/
def rowS (ks : List IntKind) (ns : List Int) : List S := (List.range ks.length).map fun i => S.sc (.int (ks.getD i .i64) (ns.getD i 0))
/-- A slice of such structs that is handed in. -/
theorem rep_rows {t e : TypeId} {fs : Array Field} {ks : List IntKind} {fuel : Nat} {A : Option Addr} {len cap : Nat} {x : DataW H × List MemPlace} (ht : P.underlying t = some (.slice e)) (he : P.underlying e = some (.struct fs)) (hk : fieldsB P fs ks = true) (hc : P.cellsOf e = ks.length) (hk0 : 0 < ks.length)
    (h : DataW.trod enc P w 0 sp held fuel t [.slice A len cap] = some x) : ∃ g : Nat → List Int, RepD noX w (.rows ks.length len fun i => rowS ks (g i)) (.slice A len cap) ∧ len ≤ 9223372036854775807 ∧ ∀ i, i < len → wfAll ks (g i) := by
  rcases DataW.trod_slice ht h with ⟨hcs, _⟩ | ⟨a, l, c, elems, rest, n, _, hcs, _, _, hl, hm, hel, hcell, _, _⟩
  · simp at hcs
    obtain ⟨rfl, rfl, rfl⟩ := hcs
    exact ⟨fun _ => [], ⟨none, 0, rfl, by simp, fun i hi => by omega⟩, by simp, fun i hi => by omega⟩
  · simp at hcs
    obtain ⟨rfl, rfl, rfl⟩ := hcs
    have one : ∀ i, i < len → ∃ ns : List Int, wfAll ks ns ∧ ∀ (j : Nat) k, ks[j]? = some k → w.cell? (a.add (i * ks.length) |>.add j) = some (.int k (ns.getD j 0)) := by
      intro i hi
      have h1 := hcell i hi
      rw [hc] at h1
      have hx : elems[i]? = some elems[i] := List.getElem?_eq_getElem (by omega)
      rw [hx] at h1
      obtain ⟨cs, h2, h3⟩ := Option.bind_eq_some_iff.1 h1
      obtain ⟨ns, h4, h5, h6⟩ := struct_ints he hk hc h3
      refine ⟨ns, h4, fun j k hj => ?_⟩
      have hlt : j < ks.length := (List.getElem?_eq_some_iff.1 hj).1
      rw [(World.cells?_some h2).2.2 j hlt, h6 j k hj]
    obtain ⟨g, hg⟩ : ∃ g : Nat → List Int, ∀ i, i < len → wfAll ks (g i) ∧ ∀ (j : Nat) k, ks[j]? = some k → w.cell? (a.add (i * ks.length) |>.add j) = some (.int k ((g i).getD j 0)) := by
      refine ⟨fun i => if hi : i < len then Classical.choose (one i hi) else [], fun i hi => ?_⟩
      simp only [dif_pos hi]
      exact Classical.choose_spec (one i hi)
    have hm2 : cap ≤ 9223372036854775807 := hm
    refine ⟨g, ⟨some a, cap, rfl, hl, fun i hi => ?_⟩, by omega, fun i hi => (hg i hi).1⟩
    refine ⟨by unfold rowS; simp, ?_⟩
    have hk1 : ks[0]? = some ks[0] := List.getElem?_eq_getElem hk0
    have h0 := (hg 0 (by omega)).2 0 _ hk1
    rw [Nat.zero_mul, show a.add 0 = a by unfold Addr.add; rw [if_pos rfl], show a.add 0 = a by unfold Addr.add; rw [if_pos rfl]] at h0
    obtain ⟨e1, e2⟩ := cell_at h0
    refine ⟨a.block, a.off, by rw [← e1], fun j s hs => ⟨e2, id, ?_⟩⟩
    unfold rowS at hs
    rw [List.getElem?_map] at hs
    obtain ⟨j', hj1, rfl⟩ := Option.map_eq_some_iff.1 hs
    have hjl : j < ks.length := by have := (List.getElem?_eq_some_iff.1 hj1).1; simpa using this
    have : j' = j := by rw [List.getElem?_range hjl] at hj1; exact (Option.some.inj hj1).symm
    subst this
    have hkj : ks[j']? = some ks[j'] := List.getElem?_eq_getElem hjl
    have h2 := (hg i hi).2 j' _ hkj
    rw [e1, add_at, add_at] at h2
    refine ⟨_, h2, ?_⟩
    have : ks.getD j' .i64 = ks[j'] := by rw [List.getD_eq_getElem?_getD, hkj]; rfl
    rw [this]
    exact ⟨rfl, rfl⟩

/-- A table of whole numbers that lies ready. -/
theorem glob_ints {name : String} {g : Nat} {t e : TypeId} {k : IntKind} {n fuel : Nat} {ns : List Int} {cs : Array Value} {p : List MemPlace} (hg : P.globalNamed name = some g) (hv : w.var? P name = some cs) (ht : P.underlying t = some (.array n e)) (he : P.underlying e = some (.int k)) (hc : P.cellsOf e = 1) (hn : ns.length = n) (hn0 : 0 < n)
    (hd : DataW.trod enc P w 0 sp held fuel t cs.toList = some (.agg (ns.map fun m => .lit (.int k m)), p)) : g < w.heap.size ∧ ¬ noX g ∧ CellsAt noX w g 0 (intCells k ns) := by
  obtain ⟨xs, m1, _, hx, _, hxl, hel⟩ := DataW.trod_array ht hd
  simp only [Prod.mk.injEq, DataW.agg.injEq] at hx
  have cell : ∀ i v, ns[i]? = some v → w.cell? ⟨g, i, none⟩ = some (.int k v) := by
    intro i v hi
    have hlt : i < n := by have := (List.getElem?_eq_some_iff.1 hi).1; omega
    have h1 := hel i hlt
    have hxi : xs[i]? = some xs[i] := List.getElem?_eq_getElem (by omega)
    rw [hxi, hc, Nat.mul_one] at h1
    obtain ⟨m, e1, e2, _⟩ := DataW.trod_int he h1
    have h2 := congrArg (fun l => l[i]?) hx.1
    simp only [List.getElem?_map, hi, hxi, e2, Option.map_some] at h2
    have hmv : v = m := by simpa using h2
    subst hmv
    have h3 : ((cs.toList.drop i).take 1)[0]? = some (.int k v) := by rw [e1]; rfl
    rw [List.getElem?_take, if_pos (by omega), List.getElem?_drop] at h3
    have h4 := World.var?_cell hg hv i
    rw [h4]
    simpa using h3
  have h0 : ns[0]? = some ns[0] := List.getElem?_eq_getElem (by omega)
  have hb := (cell_at (cell 0 _ h0)).2
  refine ⟨hb, id, fun i s hs => ⟨hb, id, ?_⟩⟩
  unfold intCells at hs
  rw [List.getElem?_map] at hs
  obtain ⟨v, hv1, rfl⟩ := Option.map_eq_some_iff.1 hs
  refine ⟨_, by rw [Nat.zero_add]; exact cell i v hv1, rfl, rfl⟩
end
theorem wf64 {n : Int} (h : (Lit.int .u64 n).wf = true) : 0 ≤ n ∧ n < 18446744073709551616 := by
  have h2 : IntKind.u64.min ≤ n ∧ n ≤ IntKind.u64.max := by simpa [Lit.wf] using h
  have e1 : IntKind.u64.min = 0 := rfl
  have e2 : IntKind.u64.max = 18446744073709551615 := rfl
  omega
theorem wfi {n : Int} (h : (Lit.int .i64 n).wf = true) : -9223372036854775808 ≤ n ∧ n < 9223372036854775808 := by
  have h2 : IntKind.i64.min ≤ n ∧ n ≤ IntKind.i64.max := by simpa [Lit.wf] using h
  have e1 : IntKind.i64.min = -9223372036854775808 := rfl
  have e2 : IntKind.i64.max = 9223372036854775807 := rfl
  omega
/-- A call that answers true. -/
theorem calls_true {P : Program} {G : Nat → Option (IntKind × List Int)} {f : FuncId} {ds : List D} (hc : Contract P G f ds [.s (.sc (.bool true))]) {w : World} {vs : List Value} (hG : GlobOk G noX w) (hl : ds.length = vs.length)
    (hr : ∀ (i : Nat) (d : D) (v : Value), ds[i]? = some d → vs[i]? = some v → RepD noX w d v) : Calls P f vs.toArray w fun e w' => e = .returned (.bool true) ∧ Below w.heap.size w w' := by
  refine (hc noX w vs (fun _ h => h.elim) hG hl hr).mono ?_
  rintro e w' ⟨vs', rfl, hb, g, hl, _, hr⟩
  match vs', hl with
  | [v], _ =>
    have := hr 0 _ v rfl rfl
    obtain ⟨rfl, _⟩ := this
    exact ⟨rfl, hb⟩
end Go.Proofs.YtfebndgmmekmgaaGreatDoor.AI

