/- Texts of the claim on TurnExacts, in their order: FEighth17, FExact17, FDocExact17, FLawExacts, Row0. -/
import Derived.WalkKit
import Derived.ProofKit
import Derived.OpenShut
import Derived.Carry
import Derived.LaidMore
import Derived.MakeChecks
import Derived.Test.YtfebndgmmekmgaaGreatDoorBTurnExacts4
/- gnomon/gnomonref17.eighth -/
namespace Go.Proofs.YtfebndgmmekmgaaGreatDoor.W
open Go Go.Proofs.YtfebndgmmekmgaaGreatDoor.AI Go.Proofs.YtfebndgmmekmgaaGreatDoor.M
namespace Eighth17
noncomputable def E : Env := { ({ base with C := callsOf [(77, Number17.orc), (89, ZMod.orc), (78, ZShl.orc), (90, ZOf.orc), (88, ZInt.orc)] }) with nt := 30, own := [26], keep := fun k => (tlook [] k).getD [], cut := tlook [] }
noncomputable def cod : Code := (Go.Proofs.Tryz.f48.body).getD .skip
theorem nok : namesOk E cod = true := by kernel_rfl
theorem start (a : Int) (b : Int) : evalFn E Go.Proofs.Tryz.f48 cod [D.s (S.sc (Value.int IntKind.i64 a)), D.s (S.sc (Value.int IntKind.u64 b))] = gif ((a = (32 : Int) ∨ a = (64 : Int)) ∧ ((0 : Int) ≤ b ∧ b < (18446744073709551616 : Int)) ∧ BFinite.finB a b = true) (vlet (isNeg (UExact.numF a b).fst) fun y0 => vlet (dg (UExact.numF a b).fst.natAbs) fun y1 => bcase (decide ((UExact.numF a b).snd < (-2 : Int))) (some [D.s (S.sc (Value.int IntKind.i64 (0 : Int))), D.s (S.sc (Value.bool false))]) (gif (Zok (y0, y1) ∧ IntKind.i64.wrap ((if (9 : Int) < (UExact.numF a b).snd then (9 : Int) else (UExact.numF a b).snd) + (2 : Int)) ≤ (1099511627776 : Int)) (vlet (isNeg (zv (y0, y1) * (2 : Int) ^ (IntKind.i64.wrap ((if (9 : Int) < (UExact.numF a b).snd then (9 : Int) else (UExact.numF a b).snd) + (2 : Int))).toNat)) fun y2 => vlet (dg (zv (y0, y1) * (2 : Int) ^ (IntKind.i64.wrap ((if (9 : Int) < (UExact.numF a b).snd then (9 : Int) else (UExact.numF a b).snd) + (2 : Int))).toNat).natAbs) fun y3 => gif ((-9223372036854775808 : Int) ≤ (8 : Int) ∧ (8 : Int) < (9223372036854775808 : Int)) (gif (Zok (y2, y3) ∧ (y2, y3).snd.length ≤ (268435456 : Nat) ∧ Zok (isNeg (8 : Int), dg (8 : Nat)) ∧ (isNeg (8 : Int), dg (8 : Nat)).fst = false ∧ (isNeg (8 : Int), dg (8 : Nat)).snd.length = (1 : Nat)) (vlet (isNeg (zv (y2, y3) % zv (isNeg (8 : Int), dg (8 : Nat)))) fun y4 => vlet (dg (zv (y2, y3) % zv (isNeg (8 : Int), dg (8 : Nat))).natAbs) fun y5 => gif (Zok (y4, y5)) (vlet (bif ZInt.inI (zv (y4, y5)) then zv (y4, y5) else (0 : Int)) fun y6 => some [D.s (S.sc (Value.int IntKind.i64 y6)), D.s (S.sc (Value.bool true))])))))) := (evalFn_J rfl nok _).trans (by kernel_rfl)
-- stuck: 0
end Eighth17
namespace Eighth17
/-- 4x mod 8, where 4x is whole. -/
def eiV (p : Int × Int) : Int := if p.2 < -2 then 0 else (p.1 * p2 ((if 9 < p.2 then 9 else p.2) + 2)) % 8
noncomputable def sp (f b : Int) : Prop × List D := ((f = 32 ∨ f = 64) ∧ (0 ≤ b ∧ b < 18446744073709551616) ∧ BFinite.finB f b = true, [.s (.sc (.int .i64 (eiV (UExact.numF f b)))), .s (.sc (.bool (decide (-2 ≤ (UExact.numF f b).2))))])
theorem spec (f b : Int) (h : (sp f b).1) : evalFn E Tryz.f48 cod [(pN .i64).put f, (pN .u64).put b] = some (sp f b).2 := by
  refine (start f b).trans ((gP h).trans ?_)
  obtain ⟨hf, hb, hfin⟩ := h
  obtain ⟨hp, hz, he⟩ := UExact.numF_pin hf hb.1 hfin
  have ha := nrmD_abs (BValue.valZ f b) (BValue.valE f b)
  have hm : (UExact.numF f b).1.natAbs < 2 ^ 53 := by unfold UExact.numF; omega
  obtain ⟨hp2a, hp2b⟩ := hp.2.1
  unfold sp eiV
  dsimp only
  generalize UExact.numF f b = p at *
  obtain ⟨m, e⟩ := p
  dsimp only at *
  have bm : bl m.natAbs ≤ 53 := bl_le.2 hm
  rw [vl_z]
  by_cases hc : e < -2
  · rw [bD_pos hc, if_pos hc, decide_eq_false (by omega)]
  · have hmin : (-2 : Int) ≤ (if 9 < e then 9 else e) ∧ (if 9 < e then 9 else e) ≤ 9 := by split <;> omega
    have hq : ∀ q : Int, q ≤ 9 → bl (m * p2 (q + 2)).natAbs ≤ 64 := fun q hq => Nat.le_trans (bl_p2 (n := q + 2) (k := 11) bm (by omega)) (by omega)
    obtain ⟨o1, o2, o3⟩ := Quarter17.one_dig (z := 8) (by decide) (by decide)
    have e8 : zv (isNeg 8, dg 8) = 8 := zv_zD 8
    rw [bD_neg hc, if_neg hc, decide_eq_true (by omega)]
    generalize (if 9 < e then (9 : Int) else e) = q at *
    have hb2 := hq q hmin.2
    have hpw : (2 : Int) ^ (q + 2).toNat = p2 (q + 2) := by unfold p2; rw [Int.natCast_pow]; rfl
    rw [wrap_i64 (n := q + 2) (by omega) (by omega), gP ⟨zok_bl (k := 64) (by omega) (by omega), by omega⟩, zv_zD, hpw, vl_z, gP ⟨by omega, by omega⟩, gP ⟨zok_bl (k := 64) hb2 (by omega), by have := len_bl hb2; omega, o1, o2, o3⟩, zv_zD, e8, vl_z, zv_zD]
    have hr : 0 ≤ m * p2 (q + 2) % 8 ∧ m * p2 (q + 2) % 8 < 8 := by omega
    have : ZInt.inI (m * p2 (q + 2) % 8) = true := by unfold ZInt.inI; rw [decide_eq_true (by omega), decide_eq_true (by omega)]; rfl
    rw [gP (Quarter17.small_zok (by omega)).1, this]
    rfl

noncomputable def orc : Orc := orc2 (pN .i64) (pN .u64) sp
theorem fnok : FnOk Tryz.prog E 48 Tryz.f48 cod := fnOk ty_ok mixed (callsOk_of _ rfl (orcs_cons Number17.ok (orcs_cons ZMod.ok (orcs_cons ZShl.ok (orcs_cons ZOf.ok (orcs_cons ZInt.ok orcs_nil))))) (ext_ok)) Tryz.func48 rfl rfl rfl
theorem ok : OrcOk Tryz.prog base.glob 48 orc := fnok.ok2 rfl spec
end Eighth17
end Go.Proofs.YtfebndgmmekmgaaGreatDoor.W

/- gnomon/gnomonref17.exact -/
namespace Go.Proofs.YtfebndgmmekmgaaGreatDoor.W
open Go Go.Proofs.YtfebndgmmekmgaaGreatDoor.AI Go.Proofs.YtfebndgmmekmgaaGreatDoor.M
namespace Exact17
noncomputable def E : Env := { ({ base with C := callsOf [(47, One17.orc)] }) with nt := 76, own := [], keep := fun k => (tlook [] k).getD [], cut := tlook [(4, [1, 2, 4, 10])] }
noncomputable def cod : Code := (Go.Proofs.Tryz.f49.body).getD .skip
theorem nok : namesOk E cod = true := by kernel_rfl
noncomputable def J4 (x0 : Int) (x1 : Int) (x2 : Int) (x3 : Int) (x4 : Int) (x5 : Int) (x6 : Int) (x7 : Int) (x8 : Int) : Option (List D) := ctO E Go.Proofs.Tryz.f49 cod 4 [(A.v (V.one (L.s (S.sc (Value.int IntKind.i64 x0)))), none), (A.v (V.one (L.s (S.sc (Value.int IntKind.i64 x1)))), none), (A.v (V.one (L.ptr (2 : Nat) (0 : Nat))), some { e := (93 : Nat), cont := Cont.cells [S.sc (Value.int IntKind.u64 x2), S.sc (Value.int IntKind.i64 x3), S.sc (Value.int IntKind.i64 x4), S.sc (Value.int IntKind.i64 x5), S.sc (Value.int IntKind.u64 x6), S.sc (Value.int IntKind.u64 x7)] }), (A.v (V.one (L.s (S.sc (Value.int IntKind.u64 x8)))), none)]
theorem start (a1 : Int) (a2 : Int) (a3 : Int) (a4 : Int) (a5 : Int) (a6 : Int) (b : Int) (c : Int) (d : Bool) : evalFn E Go.Proofs.Tryz.f49 cod [D.agg [S.sc (Value.int IntKind.u64 a1), S.sc (Value.int IntKind.i64 a2), S.sc (Value.int IntKind.i64 a3), S.sc (Value.int IntKind.i64 a4), S.sc (Value.int IntKind.u64 a5), S.sc (Value.int IntKind.u64 a6)], D.s (S.sc (Value.int IntKind.i64 b)), D.s (S.sc (Value.int IntKind.i64 c)), D.s (S.sc (Value.bool d))] = bcase d (Exact17.J4 b c a1 a2 a3 a4 a5 a6 a1) (Exact17.J4 b c a1 a2 a3 a4 a5 a6 (0 : Int)) := (evalFn_J rfl nok _).trans (by kernel_rfl)
theorem J4_eq (x0 : Int) (x1 : Int) (x2 : Int) (x3 : Int) (x4 : Int) (x5 : Int) (x6 : Int) (x7 : Int) (x8 : Int) : J4 x0 x1 x2 x3 x4 x5 x6 x7 x8 = bcase (x0 == (4 : Int)) (gif True (gif True (if (0 : Int) ≤ x1 ∧ x1 < (8 : Int) then some [D.s (S.sc (Value.int IntKind.u64 ([x8, (0 : Int), One17.oneV (x2, x3, x4, x5, x6, x7), (0 : Int), x8, (0 : Int), IntKind.u64.wrap (x2 + One17.oneV (x2, x3, x4, x5, x6, x7)), (0 : Int)].getD x1.toNat (0 : Int)))), D.s (S.sc (Value.bool (x1.tmod (2 : Int) == (0 : Int))))] else none))) (bcase (x0 == (5 : Int)) (gif True (gif True (if (0 : Int) ≤ x1 ∧ x1 < (8 : Int) then some [D.s (S.sc (Value.int IntKind.u64 ([One17.oneV (x2, x3, x4, x5, x6, x7), (0 : Int), (0 : Int), (0 : Int), IntKind.u64.wrap (x2 + One17.oneV (x2, x3, x4, x5, x6, x7)), (0 : Int), (0 : Int), (0 : Int)].getD x1.toNat (0 : Int)))), D.s (S.sc (Value.bool (x1.tmod (2 : Int) == (0 : Int))))] else none))) (gif True (gif True (gif True (gif True (if (0 : Int) ≤ x1 ∧ x1 < (8 : Int) then some [D.s (S.sc (Value.int IntKind.u64 ([x8, One17.oneV (x2, x3, x4, x5, x6, x7), x6, IntKind.u64.wrap (x2 + One17.oneV (x2, x3, x4, x5, x6, x7)), IntKind.u64.wrap (x2 - x8), One17.oneV (x2, x3, x4, x5, x6, x7), IntKind.u64.wrap (x2 + x6), IntKind.u64.wrap (x2 + One17.oneV (x2, x3, x4, x5, x6, x7))].getD x1.toNat (0 : Int)))), D.s (S.sc (Value.bool true))] else none)))))) := (cutAt_J rfl nok 4 _).trans (by kernel_rfl)
-- stuck: 0
end Exact17
namespace Exact17
/-- The exact cases' patterns, by 4x mod 8. -/
def exL (k : K6) (fn s : Int) : List Int :=
  if fn = 4 then [s, 0, One17.oneV k, 0, s, 0, k.1 + One17.oneV k, 0]
  else if fn = 5 then [One17.oneV k, 0, 0, 0, k.1 + One17.oneV k, 0, 0, 0]
  else [s, One17.oneV k, kI k, k.1 + One17.oneV k, k.1 - s, One17.oneV k, k.1 + kI k, k.1 + One17.oneV k]
def exB (fn j : Int) : Bool := if fn = 4 ∨ fn = 5 then j % 2 == 0 else true
noncomputable def sp (k : K6) (fn j : Int) (neg : Bool) : Prop × List D := (IsK k ∧ 0 ≤ j ∧ j < 8, [.s (.sc (.int .u64 ((exL k fn (bif neg then k.1 else 0)).getD j.toNat 0))), .s (.sc (.bool (exB fn j)))])
theorem spec (k : K6) (fn j : Int) (neg : Bool) (h : (sp k fn j neg).1) : evalFn E Tryz.f49 cod [(pG (.pair (sN .u64) (.pair (sN .i64) (.pair (sN .i64) (.pair (sN .i64) (.pair (sN .u64) (sN .u64))))))).put k, (pN .i64).put fn, (pN .i64).put j, pB.put neg] = some (sp k fn j neg).2 := by
  obtain ⟨hk, hj⟩ := h
  refine (start k.1 k.2.1 k.2.2.1 k.2.2.2.1 k.2.2.2.2.1 k.2.2.2.2.2 fn j neg).trans ?_
  have key : ∀ s : Int, (s = k.1 ∨ s = 0) → J4 fn j k.1 k.2.1 k.2.2.1 k.2.2.2.1 k.2.2.2.2.1 k.2.2.2.2.2 s = some [.s (.sc (.int .u64 ((exL k fn s).getD j.toNat 0))), .s (.sc (.bool (exB fn j)))] := by
    intro s hs
    have e1 : IntKind.u64.wrap (k.1 + One17.oneV k) = k.1 + One17.oneV k := by rcases hk with rfl | rfl <;> rfl
    have e2 : IntKind.u64.wrap (k.1 + kI k) = k.1 + kI k := by rcases hk with rfl | rfl <;> rfl
    have e3 : IntKind.u64.wrap (k.1 - s) = k.1 - s := by rcases hs with rfl | rfl <;> rcases hk with rfl | rfl <;> rfl
    have et : j.tmod 2 = j % 2 := Int.tmod_eq_emod_of_nonneg hj.1
    rw [J4_eq]
    unfold exL exB
    by_cases h4 : fn = 4
    · rw [bE_pos h4, gP trivial, gP trivial, if_pos hj, if_pos h4, if_pos (.inl h4), et]
      rw [show (k.1, k.2.1, k.2.2.1, k.2.2.2.1, k.2.2.2.2.1, k.2.2.2.2.2) = k from rfl, e1]
    · rw [bE_neg h4, if_neg h4]
      by_cases h5 : fn = 5
      · rw [bE_pos h5, gP trivial, gP trivial, if_pos hj, if_pos h5, if_pos (.inr h5), et]
        rw [show (k.1, k.2.1, k.2.2.1, k.2.2.2.1, k.2.2.2.2.1, k.2.2.2.2.2) = k from rfl, e1]
      · rw [bE_neg h5, gP trivial, gP trivial, gP trivial, gP trivial, if_pos hj, if_neg h5, if_neg (by omega), show k.2.2.2.2.1 = kI k from rfl, e2, e3]
        rw [show (k.1, k.2.1, k.2.2.1, k.2.2.2.1, kI k, k.2.2.2.2.2) = k from rfl, e1]
  cases neg with
  | true => rw [bT, key _ (.inl rfl)]; rfl
  | false => rw [bF, key _ (.inr rfl)]; rfl

noncomputable def orc : Orc := orc4 (pG (.pair (sN .u64) (.pair (sN .i64) (.pair (sN .i64) (.pair (sN .i64) (.pair (sN .u64) (sN .u64))))))) (pN .i64) (pN .i64) pB sp
theorem fnok : FnOk Tryz.prog E 49 Tryz.f49 cod := fnOk ty_ok mixed (callsOk_of _ rfl (orcs_cons One17.ok orcs_nil) (ext_ok)) Tryz.func49 rfl rfl rfl
theorem ok : OrcOk Tryz.prog base.glob 49 orc := fnok.ok4 rfl spec
end Exact17
end Go.Proofs.YtfebndgmmekmgaaGreatDoor.W

/- gnomon/gnomonref17.DocExact -/
namespace Go.Proofs.YtfebndgmmekmgaaGreatDoor.W
open Go Go.Proofs.YtfebndgmmekmgaaGreatDoor.AI Go.Proofs.YtfebndgmmekmgaaGreatDoor.M
namespace DocExact17
noncomputable def E : Env := { ({ base with C := callsOf [(44, Of7.orc), (45, Check7.orc), (46, Cut7.orc), (47, One17.orc), (48, Eighth17.orc), (49, Exact17.orc)] }) with nt := 83, own := [18, 33, 58, 66, 76], keep := fun k => (tlook [] k).getD [], cut := tlook [(4, [0, 1, 2, 9]), (14, [0, 1, 2, 9, 12])] }
noncomputable def cod : Code := (Go.Proofs.Tryz.f13.body).getD .skip
theorem nok : namesOk E cod = true := by kernel_rfl
noncomputable def J4 (x0 : Int) (x1 : Int) (x2 : Int) (x3 : Int) (x4 : Int) (x5 : Int) (x6 : Int) (x7 : Int) (x8 : Int) : Option (List D) := ctO E Go.Proofs.Tryz.f13 cod 4 [(A.v (V.one (L.s (S.sc (Value.int IntKind.i64 x0)))), none), (A.v (V.one (L.s (S.sc (Value.int IntKind.i64 x1)))), none), (A.v (V.one (L.s (S.sc (Value.int IntKind.u64 x2)))), none), (A.v (V.one (L.ptr (3 : Nat) (0 : Nat))), some { e := (93 : Nat), cont := Cont.cells [S.sc (Value.int IntKind.u64 x3), S.sc (Value.int IntKind.i64 x4), S.sc (Value.int IntKind.i64 x5), S.sc (Value.int IntKind.i64 x6), S.sc (Value.int IntKind.u64 x7), S.sc (Value.int IntKind.u64 x8)] })]
noncomputable def J14 (x0 : Int) (x1 : Int) (x2 : Int) (x3 : Int) (x4 : Int) (x5 : Int) (x6 : Int) (x7 : Int) (x8 : Int) (b9 : Bool) : Option (List D) := ctO E Go.Proofs.Tryz.f13 cod 14 [(A.v (V.one (L.s (S.sc (Value.int IntKind.i64 x0)))), none), (A.v (V.one (L.s (S.sc (Value.int IntKind.i64 x1)))), none), (A.v (V.one (L.s (S.sc (Value.int IntKind.u64 x2)))), none), (A.v (V.one (L.ptr (3 : Nat) (0 : Nat))), some { e := (93 : Nat), cont := Cont.cells [S.sc (Value.int IntKind.u64 x3), S.sc (Value.int IntKind.i64 x4), S.sc (Value.int IntKind.i64 x5), S.sc (Value.int IntKind.i64 x6), S.sc (Value.int IntKind.u64 x7), S.sc (Value.int IntKind.u64 x8)] }), (A.v (V.one (L.s (S.sc (Value.bool b9)))), none)]
theorem start (a : Int) (b : Int) (c : Int) : evalFn E Go.Proofs.Tryz.f13 cod [D.s (S.sc (Value.int IntKind.i64 a)), D.s (S.sc (Value.int IntKind.i64 b)), D.s (S.sc (Value.int IntKind.u64 c))] = gif True (vlet (a == (32 : Int) || a == (64 : Int)) fun y0 => bcase (!y0) (some [D.s (S.sc (Value.int IntKind.u64 (0 : Int))), D.s (S.sc (Value.bool false)), D.s (S.sc (Value.int IntKind.i64 (1 : Int)))]) (bcase (decide (b < (4 : Int))) (some [D.s (S.sc (Value.int IntKind.u64 (0 : Int))), D.s (S.sc (Value.bool false)), D.s (S.sc (Value.int IntKind.i64 (1 : Int)))]) (bcase (decide ((6 : Int) < b)) (some [D.s (S.sc (Value.int IntKind.u64 (0 : Int))), D.s (S.sc (Value.bool false)), D.s (S.sc (Value.int IntKind.i64 (1 : Int)))]) (DocExact17.J4 a b c (Of7.fS a) (Of7.fP a) (Of7.fE a) (Of7.fG a) (Of7.fI a) (Of7.fQ a))))) := (evalFn_J rfl nok _).trans (by kernel_rfl)
theorem J4_eq (x0 : Int) (x1 : Int) (x2 : Int) (x3 : Int) (x4 : Int) (x5 : Int) (x6 : Int) (x7 : Int) (x8 : Int) : J4 x0 x1 x2 x3 x4 x5 x6 x7 x8 = gif ((0 : Int) ≤ x2 ∧ x2 < (18446744073709551616 : Int)) (bcase (Check7.chkV x0 x2 != (0 : Int)) (some [D.s (S.sc (Value.int IntKind.u64 (0 : Int))), D.s (S.sc (Value.bool false)), D.s (S.sc (Value.int IntKind.i64 (Check7.chkV x0 x2)))]) (gif (IsK (x3, x4, x5, x6, x7, x8) ∧ (0 : Int) ≤ x2) (vlet (decide ((x3, x4, x5, x6, x7, x8).fst ≤ x2)) fun y1 => vlet (x2 % (x3, x4, x5, x6, x7, x8).fst) fun y2 => bcase (decide (x7 ≤ y2)) (some [D.s (S.sc (Value.int IntKind.u64 x8)), D.s (S.sc (Value.bool true)), D.s (S.sc (Value.int IntKind.i64 (0 : Int)))]) (bcase (y2 == (0 : Int)) (bcase (x1 == (5 : Int)) (gif True (vlet (One17.oneV (x3, x4, x5, x6, x7, x8)) fun y3 => some [D.s (S.sc (Value.int IntKind.u64 y3)), D.s (S.sc (Value.bool true)), D.s (S.sc (Value.int IntKind.i64 (0 : Int)))])) (bcase (y2 == (0 : Int)) (some [D.s (S.sc (Value.int IntKind.u64 x2)), D.s (S.sc (Value.bool true)), D.s (S.sc (Value.int IntKind.i64 (0 : Int)))]) (DocExact17.J14 x0 x1 x2 x3 x4 x5 x6 x7 x8 y1))) (bcase (y2 == (0 : Int)) (some [D.s (S.sc (Value.int IntKind.u64 x2)), D.s (S.sc (Value.bool true)), D.s (S.sc (Value.int IntKind.i64 (0 : Int)))]) (DocExact17.J14 x0 x1 x2 x3 x4 x5 x6 x7 x8 y1)))))) := (cutAt_J rfl nok 4 _).trans (by kernel_rfl)
theorem J14_eq (x0 : Int) (x1 : Int) (x2 : Int) (x3 : Int) (x4 : Int) (x5 : Int) (x6 : Int) (x7 : Int) (x8 : Int) (b9 : Bool) : J14 x0 x1 x2 x3 x4 x5 x6 x7 x8 b9 = gif ((x0 = (32 : Int) ∨ x0 = (64 : Int)) ∧ ((0 : Int) ≤ x2 ∧ x2 < (18446744073709551616 : Int)) ∧ BFinite.finB x0 x2 = true) (vlet (decide ((-2 : Int) ≤ (UExact.numF x0 x2).snd)) fun y4 => bcase (!y4) (some [D.s (S.sc (Value.int IntKind.u64 (0 : Int))), D.s (S.sc (Value.bool false)), D.s (S.sc (Value.int IntKind.i64 (0 : Int)))]) (gif (IsK (x3, x4, x5, x6, x7, x8) ∧ (0 : Int) ≤ Eighth17.eiV (UExact.numF x0 x2) ∧ Eighth17.eiV (UExact.numF x0 x2) < (8 : Int)) (vlet ((Exact17.exL (x3, x4, x5, x6, x7, x8) x1 (bif b9 then (x3, x4, x5, x6, x7, x8).fst else (0 : Int))).getD (Eighth17.eiV (UExact.numF x0 x2)).toNat (0 : Int)) fun y5 => bcase (!Exact17.exB x1 (Eighth17.eiV (UExact.numF x0 x2))) (some [D.s (S.sc (Value.int IntKind.u64 (0 : Int))), D.s (S.sc (Value.bool (Exact17.exB x1 (Eighth17.eiV (UExact.numF x0 x2))))), D.s (S.sc (Value.int IntKind.i64 (0 : Int)))]) (some [D.s (S.sc (Value.int IntKind.u64 y5)), D.s (S.sc (Value.bool (Exact17.exB x1 (Eighth17.eiV (UExact.numF x0 x2))))), D.s (S.sc (Value.int IntKind.i64 (0 : Int)))])))) := (cutAt_J rfl nok 14 _).trans (by kernel_rfl)
-- stuck: 0
end DocExact17
namespace DocExact17
theorem neg_eq {f b : Int} (h : (UExact.numF f b).1 ≠ 0) : isNeg (UExact.numF f b).1 = decide (BSign.signV (BShape.shp f) ≤ b) := by
  have hz : BValue.valZ f b ≠ 0 := fun hz => h (nrmD_one_zero.2 hz)
  obtain ⟨h1, _⟩ := nrmD_val (e := BValue.valE f b) hz
  have hp := p2_pos ((tz (BValue.valZ f b).natAbs : Nat) : Int)
  have hs : isNeg (UExact.numF f b).1 = isNeg (BValue.valZ f b) := by
    unfold UExact.numF
    generalize nrmD (BValue.valZ f b) (BValue.valE f b) = q at *
    generalize p2 ((tz (BValue.valZ f b).natAbs : Nat) : Int) = w at *
    rw [h1]
    by_cases hn : q.1 < 0
    · rw [isNeg_iff.2 hn, isNeg_iff.2 (Int.mul_neg_of_neg_of_pos hn hp)]
    · rw [isNeg_false.2 (by omega), isNeg_false.2 (Int.mul_nonneg (by omega) (by omega))]
  rw [hs]
  unfold BValue.valZ at *
  rw [zs_neg]
  have hne : (BParts.manV (BShape.shp f) (b % BSign.signV (BShape.shp f))).toNat ≠ 0 := fun h0 => hz (by rw [h0]; exact zs_zero.2 rfl)
  rw [decide_eq_true hne, Bool.and_true]
/-- The exact cases of a finite number but nought. -/
theorem cases17 {f fn : Int} (hf : f = 32 ∨ f = 64) (hn : fn = 4 ∨ fn = 5 ∨ fn = 6) {m e : Int} (hm : m % 2 = 1) (neg : Bool) (hneg : isNeg m = neg) :
    (if decide (-2 ≤ e) = true ∧ Exact17.exB fn (Eighth17.eiV (m, e)) = true then ((Exact17.exL (kf (f == 64)) fn (bif neg then (kf (f == 64)).1 else 0)).getD (Eighth17.eiV (m, e)).toNat 0, true, (0 : Int)) else (0, false, 0)) =
    (if (UExact0.exV fn (m, e)).2.2 = true then (UPattern.patV f (UExact0.exV fn (m, e)).1 (UExact0.exV fn (m, e)).2.1, true, 0) else (0, false, 0)) := by
  have he : e < -2 ∨ e = -2 ∨ e = -1 ∨ e = 0 ∨ 0 < e := by omega
  rcases he with he | rfl | rfl | rfl | he
  · rw [decide_eq_false (by omega), if_neg (by simp)]
    have : (UExact0.exV fn (m, e)).2.2 = false := by
      unfold UExact0.exV
      dsimp only
      simp only [if_neg (show ¬ 0 ≤ e by omega), if_neg (show ¬ e = -1 by omega), if_neg (show ¬ e = -2 by omega)]
      repeat' split
      all_goals rfl
    rw [this, if_neg (by simp)]
  · have hj : Eighth17.eiV (m, -2) = m % 8 := by unfold Eighth17.eiV; show m * p2 0 % 8 = _; rw [p2_zero, Int.mul_one]
    rw [hj]
    have h8 : (m % 8 = 1 ∧ m % 4 = 1) ∨ (m % 8 = 3 ∧ m % 4 = 3) ∨ (m % 8 = 5 ∧ m % 4 = 1) ∨ (m % 8 = 7 ∧ m % 4 = 3) := by omega
    rcases hn with rfl | rfl | rfl <;> rcases h8 with ⟨a1, a2⟩ | ⟨a1, a2⟩ | ⟨a1, a2⟩ | ⟨a1, a2⟩ <;> (unfold UExact0.exV; dsimp only; rw [a1, a2]; rcases hf with rfl | rfl <;> rfl)
  · have hj : Eighth17.eiV (m, -1) = m * 2 % 8 := by unfold Eighth17.eiV; show m * p2 1 % 8 = _; rw [p2_one]
    rw [hj]
    have h8 : (m * 2 % 8 = 2 ∧ m % 4 = 1) ∨ (m * 2 % 8 = 6 ∧ m % 4 = 3) := by omega
    rcases hn with rfl | rfl | rfl <;> rcases h8 with ⟨a1, a2⟩ | ⟨a1, a2⟩ <;> (unfold UExact0.exV; dsimp only; rw [a1, a2]; rcases hf with rfl | rfl <;> rfl)
  · have hj : Eighth17.eiV (m, 0) = m * 4 % 8 := rfl
    have h8 : m * 4 % 8 = 4 := by omega
    rw [hj, h8]
    rcases hn with rfl | rfl | rfl <;> (unfold UExact0.exV; dsimp only; rw [hneg]; cases neg <;> rcases hf with rfl | rfl <;> rfl)
  · have hj : Eighth17.eiV (m, e) = 0 := by
      unfold Eighth17.eiV
      dsimp only
      rw [if_neg (by omega)]
      have hq : 1 ≤ (if 9 < e then 9 else e) := by split <;> omega
      generalize (if 9 < e then (9 : Int) else e) = q at *
      have : p2 (q + 2) = p2 (q - 1) * 8 := by
        have := p2_add (m := q - 1) (n := 3) (by omega) (by omega)
        rwa [show q - 1 + 3 = q + 2 by omega] at this
      rw [this, ← Int.mul_assoc]
      omega
    rw [hj, decide_eq_true (show -2 ≤ e by omega)]
    rcases hn with rfl | rfl | rfl <;> (unfold UExact0.exV; dsimp only; simp only [hneg, if_pos (show 0 ≤ e by omega), beq_eq_false_iff_ne.2 (show e ≠ 0 by omega)]; cases neg <;> rcases hf with rfl | rfl <;> rfl)
noncomputable def sp (f fn b : Int) : Prop × List D := (0 ≤ b ∧ b < 18446744073709551616, [.s (.sc (.int .u64 (UExact.exactR f fn b).1)), .s (.sc (.bool (UExact.exactR f fn b).2.1)), .s (.sc (.int .i64 (UExact.exactR f fn b).2.2))])
theorem spec (f fn b : Int) (h : (sp f fn b).1) : evalFn E Tryz.f13 cod [(pN .i64).put f, (pN .i64).put fn, (pN .u64).put b] = some (sp f fn b).2 := by
  have h : 0 ≤ b ∧ b < 18446744073709551616 := h
  refine (start f fn b).trans ((gP trivial).trans ?_)
  rw [vl]
  unfold sp UExact.exactR
  have hfm : (f == 32 || f == 64) = BQuiet.fmtB f := by
    unfold BQuiet.fmtB
    by_cases h1 : f = 32
    · subst h1; rfl
    · by_cases h2 : f = 64
      · subst h2; rfl
      · rw [beq_eq_false_iff_ne.2 h1, beq_eq_false_iff_ne.2 h2, decide_eq_false (by omega)]; rfl
  rw [hfm]
  cases hq : BQuiet.fmtB f with
  | false => rw [if_pos (.inl rfl)]; rfl
  | true =>
    have hf : f = 32 ∨ f = 64 := of_decide_eq_true hq
    rw [Bool.not_true, bF]
    have hkn : UKnown.knownB fn = true ↔ 4 ≤ fn ∧ fn ≤ 6 := by unfold UKnown.knownB; rw [decide_eq_true_iff]; omega
    by_cases c1 : fn < 4
    · rw [bD_pos c1, if_pos (.inr (by cases hk : UKnown.knownB fn with | false => rfl | true => have := hkn.1 hk; omega))]
    · rw [bD_neg c1]
      by_cases c2 : 6 < fn
      · rw [bD_pos c2, if_pos (.inr (by cases hk : UKnown.knownB fn with | false => rfl | true => have := hkn.1 hk; omega))]
      · have hn : fn = 4 ∨ fn = 5 ∨ fn = 6 := by omega
        obtain ⟨k1, k2, k3, k4⟩ := Number17.kf_of hf
        have hI : Of7.fI f = BInf.infV (BShape.shp f) := by rcases hf with rfl | rfl <;> rfl
        have hQ : Of7.fQ f = (BShape.shp f).2.2.2 := by rcases hf with rfl | rfl <;> rfl
        rw [bD_neg c2, if_neg (by rw [hkn.2 (by omega)]; simp), J4_eq, gP h, k1, k4, hI, hQ]
        unfold Check7.chkV
        rw [hq, cond_true]
        cases hp : BTake.patB f b with
        | false => rw [if_pos rfl]; rfl
        | true =>
          rw [if_neg (by simp), cond_true, bN_neg rfl, gP ⟨k3, h.1⟩, vl, vl]
          have hs := BFinite.two_shp hf
          have hn0 : 0 ≤ b % BSign.signV (BShape.shp f) := by unfold BSign.signV; split <;> omega
          have hhid : 0 < BHidden.hidV (BShape.shp f) ∧ BHidden.hidV (BShape.shp f) < BInf.infV (BShape.shp f) := by
            rcases hf with rfl | rfl
            · exact ⟨by show (0 : Int) < 8388608; omega, by show (8388608 : Int) < 2139095040; omega⟩
            · exact ⟨by show (0 : Int) < 4503599627370496; omega, by show (4503599627370496 : Int) < 9218868437227405312; omega⟩
          have hcl : (BClass.classV (BShape.shp f) (b % BSign.signV (BShape.shp f)) = 4 ∨ BClass.classV (BShape.shp f) (b % BSign.signV (BShape.shp f)) = 3) ↔ BInf.infV (BShape.shp f) ≤ b % BSign.signV (BShape.shp f) := by
            unfold BClass.classV
            split
            · omega
            · split
              · omega
              · split
                · omega
                · split <;> omega
          have hc0 : BClass.classV (BShape.shp f) (b % BSign.signV (BShape.shp f)) = 0 ↔ b % BSign.signV (BShape.shp f) = 0 := by
            unfold BClass.classV
            split
            · omega
            · split
              · omega
              · split
                · omega
                · split <;> omega
          by_cases c3 : BInf.infV (BShape.shp f) ≤ b % BSign.signV (BShape.shp f)
          · rw [bD_pos c3, if_pos (hcl.2 c3)]
          · rw [bD_neg c3, if_neg (fun h => c3 (hcl.1 h))]
            have hfin : BFinite.finB f b = true := decide_eq_true (by omega)
            by_cases c4 : b % BSign.signV (BShape.shp f) = 0
            · rw [bE_pos c4, if_pos (hc0.2 c4)]
              by_cases h5 : fn = 5
              · rw [bE_pos h5, if_pos h5, gP trivial]
                rcases hf with rfl | rfl <;> rfl
              · rw [bE_neg h5, if_neg h5, bE_pos c4]
            · have hj : J14 f fn b (Of7.fS f) (Of7.fP f) (Of7.fE f) (Of7.fG f) (BInf.infV (BShape.shp f)) (BShape.shp f).2.2.2 (decide (BSign.signV (BShape.shp f) ≤ b)) = some [.s (.sc (.int .u64 (if (UExact0.exV fn (UExact.numF f b)).2.2 = true then (UPattern.patV f (UExact0.exV fn (UExact.numF f b)).1 (UExact0.exV fn (UExact.numF f b)).2.1, true, (0 : Int)) else (0, false, 0)).1)), .s (.sc (.bool (if (UExact0.exV fn (UExact.numF f b)).2.2 = true then (UPattern.patV f (UExact0.exV fn (UExact.numF f b)).1 (UExact0.exV fn (UExact.numF f b)).2.1, true, (0 : Int)) else (0, false, 0)).2.1)), .s (.sc (.int .i64 (if (UExact0.exV fn (UExact.numF f b)).2.2 = true then (UPattern.patV f (UExact0.exV fn (UExact.numF f b)).1 (UExact0.exV fn (UExact.numF f b)).2.1, true, (0 : Int)) else (0, false, 0)).2.2))] := by
                obtain ⟨hpin, _, _⟩ := UExact.numF_pin hf h.1 hfin
                have hne : (UExact.numF f b).1 ≠ 0 := by
                  intro h0
                  have hz : BValue.valZ f b = 0 := nrmD_one_zero.1 h0
                  unfold BValue.valZ at hz
                  have := zs_zero.1 hz
                  have hm := BValue.man_lt hs hn0
                  have hm0 : BParts.manV (BShape.shp f) (b % BSign.signV (BShape.shp f)) = 0 := by omega
                  unfold BParts.manV at hm0
                  rcases hf with rfl | rfl
                  · rw [show BHidden.hidV (BShape.shp 32) = 8388608 from rfl] at hm0
                    split at hm0 <;> omega
                  · rw [show BHidden.hidV (BShape.shp 64) = 4503599627370496 from rfl] at hm0
                    split at hm0 <;> omega
                have hneg := neg_eq hne
                have hodd := hpin.2.2.2 hne
                have hc := cases17 hf hn (e := (UExact.numF f b).2) hodd _ hneg
                rw [show ((UExact.numF f b).1, (UExact.numF f b).2) = UExact.numF f b from rfl] at hc
                have hk1 : (kf (f == 64)).1 = BSign.signV (BShape.shp f) := k4
                have hj8 : 0 ≤ Eighth17.eiV (UExact.numF f b) ∧ Eighth17.eiV (UExact.numF f b) < 8 := by unfold Eighth17.eiV; split <;> omega
                have hkk : (Of7.fS f, Of7.fP f, Of7.fE f, Of7.fG f, BInf.infV (BShape.shp f), (BShape.shp f).2.2.2) = kf (f == 64) := by rw [← k1, ← hI, ← hQ]
                rw [J14_eq, gP ⟨hf, h, hfin⟩, vl, hkk, ← hc]
                by_cases c5 : -2 ≤ (UExact.numF f b).2
                · rw [decide_eq_true c5, Bool.not_true, bF, gP ⟨k3, hj8⟩, vl]
                  cases hb : Exact17.exB fn (Eighth17.eiV (UExact.numF f b)) with
                  | true => rw [if_pos ⟨rfl, rfl⟩]; rfl
                  | false => rw [if_neg (by simp)]; rfl
                · rw [decide_eq_false c5, if_neg (by simp)]; rfl
              rw [bE_neg c4, if_neg (fun h => c4 (hc0.1 h)), bE_neg c4, hj]

noncomputable def orc : Orc := orc3 (pN .i64) (pN .i64) (pN .u64) sp
theorem fnok : FnOk Tryz.prog E 13 Tryz.f13 cod := fnOk ty_ok mixed (callsOk_of _ rfl (orcs_cons Of7.ok (orcs_cons Check7.ok (orcs_cons Cut7.ok (orcs_cons One17.ok (orcs_cons Eighth17.ok (orcs_cons Exact17.ok orcs_nil)))))) (ext_ok)) Tryz.func13 rfl rfl rfl
theorem ok : OrcOk Tryz.prog base.glob 13 orc := fnok.ok3 rfl spec
end DocExact17
end Go.Proofs.YtfebndgmmekmgaaGreatDoor.W

/- gnomon/gnomonlaw17.TurnExacts -/
namespace Go.Proofs.YtfebndgmmekmgaaGreatDoor.W
open Go Go.Proofs.YtfebndgmmekmgaaGreatDoor.AI Go.Proofs.YtfebndgmmekmgaaGreatDoor.M
namespace LawExacts
noncomputable def E : Env := { ({ base with C := callsOf [(8, LAwake.orc), (12, UExact.orc), (13, DocExact17.orc)] }) with nt := 55, own := [], keep := fun k => (tlook [(4, [13, 14, 15])] k).getD [], cut := tlook [] }
noncomputable def cod : Code := (Go.Proofs.Tryz.f4.body).getD .skip
theorem nok : namesOk E cod = true := by kernel_rfl
noncomputable def L4 (m0 : Nat) (f1 : Nat → Int) (f2 : Nat → Int) (f3 : Nat → Int) (f4 : Nat → Int) (x5 : Int) (x6 : Int) : Option (List D) := lpO E Go.Proofs.Tryz.f4 cod 4 [(A.v (V.one (L.rows (4 : Nat) m0 fun i => [S.sc (Value.int IntKind.i64 (f1 i)), S.sc (Value.int IntKind.i64 (f2 i)), S.sc (Value.int IntKind.u64 (f3 i)), S.sc (Value.int IntKind.i64 (f4 i))])), none), (A.v (V.one (L.s (S.sc (Value.int IntKind.i64 x5)))), none), (A.v (V.one (L.s (S.sc (Value.int IntKind.i64 x6)))), none)]
theorem start (n : Nat) (f : Nat → Int × Int × Int × Int) : evalFn E Go.Proofs.Tryz.f4 cod [D.rows (4 : Nat) n fun i => [S.sc (Value.int IntKind.i64 (f i).fst), S.sc (Value.int IntKind.i64 (f i).snd.fst), S.sc (Value.int IntKind.u64 (f i).snd.snd.fst), S.sc (Value.int IntKind.i64 (f i).snd.snd.snd)]] = gif True (LawExacts.L4 n (fun i => (f i).fst) (fun i => (f i).snd.fst) (fun i => (f i).snd.snd.fst) (fun i => (f i).snd.snd.snd) (↑n : Int) (0 : Int)) := (evalFn_J rfl nok _).trans (by kernel_rfl)
theorem L4_eq (m0 : Nat) (f1 : Nat → Int) (f2 : Nat → Int) (f3 : Nat → Int) (f4 : Nat → Int) (x5 : Int) (x6 : Int) : L4 m0 f1 f2 f3 f4 x5 x6 = bcase (decide (x6 < x5)) (if (0 : Int) ≤ x6 ∧ x6 < (↑m0 : Int) then gif ((0 : Int) ≤ f3 x6.toNat ∧ f3 x6.toNat < (18446744073709551616 : Int)) (vlet (UExact.exactR (f1 x6.toNat) (f2 x6.toNat) (f3 x6.toNat)).fst fun y0 => vlet (UExact.exactR (f1 x6.toNat) (f2 x6.toNat) (f3 x6.toNat)).snd.fst fun y1 => vlet (UExact.exactR (f1 x6.toNat) (f2 x6.toNat) (f3 x6.toNat)).snd.snd fun y2 => gif ((0 : Int) ≤ f3 x6.toNat ∧ f3 x6.toNat < (18446744073709551616 : Int)) (vlet (UExact.exactR (f1 x6.toNat) (f2 x6.toNat) (f3 x6.toNat)).fst fun y3 => vlet (UExact.exactR (f1 x6.toNat) (f2 x6.toNat) (f3 x6.toNat)).snd.fst fun y4 => vlet (UExact.exactR (f1 x6.toNat) (f2 x6.toNat) (f3 x6.toNat)).snd.snd fun y5 => bcase (y0 != y3) (some [D.s (S.sc (Value.bool false))]) (bcase (y1 != y4) (some [D.s (S.sc (Value.bool false))]) (bcase (y2 != y5) (some [D.s (S.sc (Value.bool false))]) (LawExacts.L4 m0 (fun i => f1 i) (fun i => f2 i) (fun i => f3 i) (fun i => f4 i) x5 (IntKind.i64.wrap (x6 + (1 : Int)))))))) else none) (some [D.s (S.sc (Value.bool true))]) := (loopAt_J rfl nok 4 _).trans (by kernel_rfl)
-- stuck: 0
end LawExacts
namespace LawExacts
theorem L {n : Nat} {f : Nat → Int × Int × Int × Int} (hl : n ≤ 9223372036854775807) (hf : ∀ i, i < n → 0 ≤ (f i).2.2.1 ∧ (f i).2.2.1 < 18446744073709551616) : ∀ (d i : Nat), i + d = n → L4 n (fun i => (f i).1) (fun i => (f i).2.1) (fun i => (f i).2.2.1) (fun i => (f i).2.2.2) (n : Int) (i : Int) = some [D.s (.sc (.bool true))] := by
  intro d
  induction d with
  | zero => intro i hd; rw [L4_eq, bD_neg (by omega)]
  | succ d ih =>
    intro i hd
    have g := hf i (by omega)
    rw [L4_eq, bD_pos (by omega), if_pos (by omega), Int.toNat_natCast, gP g, vl, vl, vl, gP g, vl, vl, vl, bN_neg rfl, bB_neg (by simp), bN_neg rfl, wrap_i64 (by omega) (by omega)]
    exact ih (i + 1) (by omega)
theorem law (n : Nat) (f : Nat → Int × Int × Int × Int) (hl : n ≤ 9223372036854775807) (hf : ∀ i, i < n → 0 ≤ (f i).2.2.1 ∧ (f i).2.2.1 < 18446744073709551616) : evalFn E Tryz.f4 cod [D.rows 4 n (fun i => [.sc (.int .i64 (f i).1), .sc (.int .i64 (f i).2.1), .sc (.int .u64 (f i).2.2.1), .sc (.int .i64 (f i).2.2.2)])] = some [.s (.sc (.bool true))] :=
  (start n f).trans ((gP trivial).trans (L hl hf n 0 (by omega)))
theorem fnok : FnOk Tryz.prog E 4 Tryz.f4 cod := fnOk ty_ok mixed (callsOk_of _ rfl (orcs_cons LAwake.ok (orcs_cons UExact.ok (orcs_cons DocExact17.ok orcs_nil))) (ext_ok)) Tryz.func4 rfl rfl rfl
theorem ok : True := trivial

end LawExacts
end Go.Proofs.YtfebndgmmekmgaaGreatDoor.W

/- What is handed in, as the abstract interpreter reads it; and a table that lies ready. -/
namespace Go.Proofs.YtfebndgmmekmgaaGreatDoor.AI
open Go Go.RowKit Go.ChangeShapes Go.WideShapes Go.ChangeAt

abbrev noX : Nat → Prop := fun _ => False
theorem cell_at {w : World} {a : Addr} {v : Value} (h : w.cell? a = some v) : a = ⟨a.block, a.off, none⟩ ∧ a.block < w.heap.size := by
  unfold World.cell? at h
  split at h
  · rename_i c t fr hb
    split at h
    · cases h
    · rename_i hs
      obtain ⟨b, o, s⟩ := a
      cases s with
      | some x => simp at hs
      | none => exact ⟨rfl, (Array.getElem?_eq_some_iff.1 hb).1⟩
  · cases h
theorem add_at {b o : Nat} (i : Nat) : (⟨b, o, none⟩ : Addr).add i = ⟨b, o + i, none⟩ := by
  unfold Addr.add
  split
  · rename_i h; subst h; rfl
  · rfl

section
variable {H : Type} {enc : TypeId × Value → H} {P : Program} {w : World} {held : Bool} {sp : Nat → Bool}
/-- A slice of whole numbers that is handed in. -/
theorem rep_ints {t e : TypeId} {k : IntKind} {fuel : Nat} {A : Option Addr} {len cap : Nat} {x : DataW H × List MemPlace} (ht : P.underlying t = some (.slice e)) (he : P.underlying e = some (.int k)) (hc : P.cellsOf e = 1)
    (h : DataW.trod enc P w 0 sp held fuel t [.slice A len cap] = some x) : ∃ ns : List Int, RepD noX w (.s (.ints k ns)) (.slice A len cap) ∧ ns.length ≤ 9223372036854775807 ∧ ∀ n ∈ ns, (Lit.int k n).wf = true := by
  rcases open_ints ht he hc h with ⟨hcs, _⟩ | ⟨a, l, c, zs, hcs, _, hl, hm, hz, _, hcell, hw⟩
  · simp at hcs
    obtain ⟨rfl, rfl, rfl⟩ := hcs
    exact ⟨[], ⟨none, 0, rfl, by simp, fun i n h => by simp at h⟩, by simp, by simp⟩
  · simp at hcs
    obtain ⟨rfl, rfl, rfl⟩ := hcs
    have hzl : len ≤ zs.length := by rw [hz]; split <;> omega
    have hlen : (zs.take len).length = len := by rw [List.length_take]; omega
    have hm2 : cap ≤ 9223372036854775807 := hm
    refine ⟨zs.take len, ⟨some a, cap, by rw [hlen], by rw [hlen]; exact hl, fun i n hn => ?_⟩, by omega, fun n hn => hw n (List.mem_of_mem_take hn)⟩
    have hi : i < len := by
      have := (List.getElem?_eq_some_iff.1 hn).1
      omega
    have h0 := hcell 0 (by omega)
    have ha : a.add 0 = a := by unfold Addr.add; rw [if_pos rfl]
    rw [ha] at h0
    obtain ⟨e1, e2⟩ := cell_at h0
    refine ⟨a.block, a.off, by rw [← e1], e2, id, ?_⟩
    have h1 := hcell i (by omega)
    rw [e1, add_at] at h1
    rw [h1]
    have : zs.getD i 0 = n := by
      rw [List.getElem?_take, if_pos hi] at hn
      rw [List.getD_eq_getElem?_getD, hn]
      rfl
    rw [this]

/-- Are a struct's fields whole numbers of these kinds, one cell each? -/
def fieldsB (P : Program) (fs : Array Field) (ks : List IntKind) : Bool :=
  Nat.beq fs.size ks.length && (List.range ks.length).all fun i => match fs[i]?, ks[i]? with
    | some f, some k => (match P.underlying f.type with | some (.int k') => decide (k' = k) | _ => false) && (Nat.beq (P.cellsOf f.type) 1 && Nat.beq f.offset i)
    | _, _ => false
def numOfV : Value → Int
  | .int _ n => n
  | _ => 0
def wfAll (ks : List IntKind) (ns : List Int) : Prop := ns.length = ks.length ∧ ∀ (i : Nat) k, ks[i]? = some k → (Lit.int k (ns.getD i 0)).wf = true
theorem struct_ints {t : TypeId} {fs : Array Field} {ks : List IntKind} {fuel : Nat} {cs : List Value} {x : DataW H × List MemPlace} (ht : P.underlying t = some (.struct fs)) (hk : fieldsB P fs ks = true) (hc : P.cellsOf t = ks.length)
    (h : DataW.trod enc P w 0 sp held fuel t cs = some x) : ∃ ns : List Int, wfAll ks ns ∧ cs.length = ks.length ∧ ∀ (i : Nat) k, ks[i]? = some k → cs[i]? = some (.int k (ns.getD i 0)) := by
  obtain ⟨xs, n, _, _, hl, hxl, hf⟩ := DataW.trod_struct ht h
  unfold fieldsB at hk
  rw [Bool.and_eq_true] at hk
  have hsz := Nat.eq_of_beq_eq_true hk.1
  have key : ∀ (i : Nat) k, ks[i]? = some k → ∃ m, cs[i]? = some (.int k m) ∧ (Lit.int k m).wf = true := by
    intro i k hi
    have hlt : i < ks.length := (List.getElem?_eq_some_iff.1 hi).1
    have h1 := List.all_eq_true.1 hk.2 i (List.mem_range.2 hlt)
    have hfi : fs[i]? = some fs[i] := Array.getElem?_eq_getElem (by omega)
    rw [hfi, hi] at h1
    simp only [Bool.and_eq_true] at h1
    obtain ⟨h2, h3, h4⟩ := h1
    have h3 := Nat.eq_of_beq_eq_true h3
    have h4 := Nat.eq_of_beq_eq_true h4
    have h5 := hf i _ hfi
    rw [h3, h4] at h5
    have hx : xs[i]? = some xs[i] := List.getElem?_eq_getElem (by omega)
    rw [hx] at h5
    cases hu : P.underlying fs[i].type with
    | none => rw [hu] at h2; cases h2
    | some d =>
      rw [hu] at h2
      cases d with
      | int k' =>
        have hkk : k' = k := of_decide_eq_true h2
        subst hkk
        obtain ⟨m, e1, _, e3⟩ := DataW.trod_int hu h5
        refine ⟨m, ?_, e3⟩
        have : ((cs.drop i).take 1)[0]? = some (.int k' m) := by rw [e1]; rfl
        rw [List.getElem?_take, if_pos (by omega), List.getElem?_drop] at this
        simpa using this
      | _ => cases h2
  refine ⟨cs.map numOfV, ⟨by rw [List.length_map, hl, hc], fun i k hi => ?_⟩, by rw [hl, hc], fun i k hi => ?_⟩
  · obtain ⟨m, e1, e2⟩ := key i k hi
    have : (cs.map numOfV).getD i 0 = m := by rw [List.getD_eq_getElem?_getD, List.getElem?_map, e1]; rfl
    rw [this]; exact e2
  · obtain ⟨m, e1, e2⟩ := key i k hi
    have : (cs.map numOfV).getD i 0 = m := by rw [List.getD_eq_getElem?_getD, List.getElem?_map, e1]; rfl
    rw [this]; exact e1

/-- The cells of such a struct. -/
def rowS (ks : List IntKind) (ns : List Int) : List S := (List.range ks.length).map fun i => S.sc (.int (ks.getD i .i64) (ns.getD i 0))
/-- A slice of such structs that is handed in. -/
theorem rep_rows {t e : TypeId} {fs : Array Field} {ks : List IntKind} {fuel : Nat} {A : Option Addr} {len cap : Nat} {x : DataW H × List MemPlace} (ht : P.underlying t = some (.slice e)) (he : P.underlying e = some (.struct fs)) (hk : fieldsB P fs ks = true) (hc : P.cellsOf e = ks.length) (hk0 : 0 < ks.length)
    (h : DataW.trod enc P w 0 sp held fuel t [.slice A len cap] = some x) : ∃ g : Nat → List Int, RepD noX w (.rows ks.length len fun i => rowS ks (g i)) (.slice A len cap) ∧ len ≤ 9223372036854775807 ∧ ∀ i, i < len → wfAll ks (g i) := by
  rcases DataW.trod_slice ht h with ⟨hcs, _⟩ | ⟨a, l, c, elems, rest, n, _, hcs, _, _, hl, hm, hel, hcell, _, _⟩
  · simp at hcs
    obtain ⟨rfl, rfl, rfl⟩ := hcs
    exact ⟨fun _ => [], ⟨none, 0, rfl, by simp, fun i hi => by omega⟩, by simp, fun i hi => by omega⟩
  · simp at hcs
    obtain ⟨rfl, rfl, rfl⟩ := hcs
    have one : ∀ i, i < len → ∃ ns : List Int, wfAll ks ns ∧ ∀ (j : Nat) k, ks[j]? = some k → w.cell? (a.add (i * ks.length) |>.add j) = some (.int k (ns.getD j 0)) := by
      intro i hi
      have h1 := hcell i hi
      rw [hc] at h1
      have hx : elems[i]? = some elems[i] := List.getElem?_eq_getElem (by omega)
      rw [hx] at h1
      obtain ⟨cs, h2, h3⟩ := Option.bind_eq_some_iff.1 h1
      obtain ⟨ns, h4, h5, h6⟩ := struct_ints he hk hc h3
      refine ⟨ns, h4, fun j k hj => ?_⟩
      have hlt : j < ks.length := (List.getElem?_eq_some_iff.1 hj).1
      rw [(World.cells?_some h2).2.2 j hlt, h6 j k hj]
    obtain ⟨g, hg⟩ : ∃ g : Nat → List Int, ∀ i, i < len → wfAll ks (g i) ∧ ∀ (j : Nat) k, ks[j]? = some k → w.cell? (a.add (i * ks.length) |>.add j) = some (.int k ((g i).getD j 0)) := by
      refine ⟨fun i => if hi : i < len then Classical.choose (one i hi) else [], fun i hi => ?_⟩
      simp only [dif_pos hi]
      exact Classical.choose_spec (one i hi)
    have hm2 : cap ≤ 9223372036854775807 := hm
    refine ⟨g, ⟨some a, cap, rfl, hl, fun i hi => ?_⟩, by omega, fun i hi => (hg i hi).1⟩
    refine ⟨by unfold rowS; simp, ?_⟩
    have hk1 : ks[0]? = some ks[0] := List.getElem?_eq_getElem hk0
    have h0 := (hg 0 (by omega)).2 0 _ hk1
    rw [Nat.zero_mul, show a.add 0 = a by unfold Addr.add; rw [if_pos rfl], show a.add 0 = a by unfold Addr.add; rw [if_pos rfl]] at h0
    obtain ⟨e1, e2⟩ := cell_at h0
    refine ⟨a.block, a.off, by rw [← e1], fun j s hs => ⟨e2, id, ?_⟩⟩
    unfold rowS at hs
    rw [List.getElem?_map] at hs
    obtain ⟨j', hj1, rfl⟩ := Option.map_eq_some_iff.1 hs
    have hjl : j < ks.length := by have := (List.getElem?_eq_some_iff.1 hj1).1; simpa using this
    have : j' = j := by rw [List.getElem?_range hjl] at hj1; exact (Option.some.inj hj1).symm
    subst this
    have hkj : ks[j']? = some ks[j'] := List.getElem?_eq_getElem hjl
    have h2 := (hg i hi).2 j' _ hkj
    rw [e1, add_at, add_at] at h2
    refine ⟨_, h2, ?_⟩
    have : ks.getD j' .i64 = ks[j'] := by rw [List.getD_eq_getElem?_getD, hkj]; rfl
    rw [this]
    exact ⟨rfl, rfl⟩

/-- A table of whole numbers that lies ready. -/
theorem glob_ints {name : String} {g : Nat} {t e : TypeId} {k : IntKind} {n fuel : Nat} {ns : List Int} {cs : Array Value} {p : List MemPlace} (hg : P.globalNamed name = some g) (hv : w.var? P name = some cs) (ht : P.underlying t = some (.array n e)) (he : P.underlying e = some (.int k)) (hc : P.cellsOf e = 1) (hn : ns.length = n) (hn0 : 0 < n)
    (hd : DataW.trod enc P w 0 sp held fuel t cs.toList = some (.agg (ns.map fun m => .lit (.int k m)), p)) : g < w.heap.size ∧ ¬ noX g ∧ CellsAt noX w g 0 (intCells k ns) := by
  obtain ⟨xs, m1, _, hx, _, hxl, hel⟩ := DataW.trod_array ht hd
  simp only [Prod.mk.injEq, DataW.agg.injEq] at hx
  have cell : ∀ i v, ns[i]? = some v → w.cell? ⟨g, i, none⟩ = some (.int k v) := by
    intro i v hi
    have hlt : i < n := by have := (List.getElem?_eq_some_iff.1 hi).1; omega
    have h1 := hel i hlt
    have hxi : xs[i]? = some xs[i] := List.getElem?_eq_getElem (by omega)
    rw [hxi, hc, Nat.mul_one] at h1
    obtain ⟨m, e1, e2, _⟩ := DataW.trod_int he h1
    have h2 := congrArg (fun l => l[i]?) hx.1
    simp only [List.getElem?_map, hi, hxi, e2, Option.map_some] at h2
    have hmv : v = m := by simpa using h2
    subst hmv
    have h3 : ((cs.toList.drop i).take 1)[0]? = some (.int k v) := by rw [e1]; rfl
    rw [List.getElem?_take, if_pos (by omega), List.getElem?_drop] at h3
    have h4 := World.var?_cell hg hv i
    rw [h4]
    simpa using h3
  have h0 : ns[0]? = some ns[0] := List.getElem?_eq_getElem (by omega)
  have hb := (cell_at (cell 0 _ h0)).2
  refine ⟨hb, id, fun i s hs => ⟨hb, id, ?_⟩⟩
  unfold intCells at hs
  rw [List.getElem?_map] at hs
  obtain ⟨v, hv1, rfl⟩ := Option.map_eq_some_iff.1 hs
  refine ⟨_, by rw [Nat.zero_add]; exact cell i v hv1, rfl, rfl⟩
end
theorem wf64 {n : Int} (h : (Lit.int .u64 n).wf = true) : 0 ≤ n ∧ n < 18446744073709551616 := by
  have h2 : IntKind.u64.min ≤ n ∧ n ≤ IntKind.u64.max := by simpa [Lit.wf] using h
  have e1 : IntKind.u64.min = 0 := rfl
  have e2 : IntKind.u64.max = 18446744073709551615 := rfl
  omega
theorem wfi {n : Int} (h : (Lit.int .i64 n).wf = true) : -9223372036854775808 ≤ n ∧ n < 9223372036854775808 := by
  have h2 : IntKind.i64.min ≤ n ∧ n ≤ IntKind.i64.max := by simpa [Lit.wf] using h
  have e1 : IntKind.i64.min = -9223372036854775808 := rfl
  have e2 : IntKind.i64.max = 9223372036854775807 := rfl
  omega
/-- A call that answers true. -/
theorem calls_true {P : Program} {G : Nat → Option (IntKind × List Int)} {f : FuncId} {ds : List D} (hc : Contract P G f ds [.s (.sc (.bool true))]) {w : World} {vs : List Value} (hG : GlobOk G noX w) (hl : ds.length = vs.length)
    (hr : ∀ (i : Nat) (d : D) (v : Value), ds[i]? = some d → vs[i]? = some v → RepD noX w d v) : Calls P f vs.toArray w fun e w' => e = .returned (.bool true) ∧ Below w.heap.size w w' := by
  refine (hc noX w vs (fun _ h => h.elim) hG hl hr).mono ?_
  rintro e w' ⟨vs', rfl, hb, g, hl, _, hr⟩
  match vs', hl with
  | [v], _ =>
    have := hr 0 _ v rfl rfl
    obtain ⟨rfl, _⟩ := this
    exact ⟨rfl, hb⟩
end Go.Proofs.YtfebndgmmekmgaaGreatDoor.AI

