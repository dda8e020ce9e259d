/- Texts of the claim on TurnNiven, in their order: FNShr, FDMake, FDAdd, FDScale, FNBit, FMMore, FNWord, FMMade, FMShr, FMFloorShr, FDCut, FDGrid, FMSign, FDTop, FDSize, FDCmp, D0, FBShape, FBSign, FBTake, FBHidden, FBInf, FBFinite, FBParts, FBNumber, FBValue, FMOf, FUDyad, FDDownAt, FDNeg, FDSub, FNNorm, FLz64, FDiv64, FNDivWord, FQuoRem, FMMod, FMSmall, FUMod4, FUReduce, FBQuiet, FUKnown, FBClass, FBClassOf, FUInfinity, FBMade, FBJoin. -/
import Derived.Test.YtfebndgmmekmgaaGreatDoorBTurnNiven2
/- gnomon/nat.Shr -/
namespace Go.Proofs.YtfebndgmmekmgaaGreatDoor.W
open Go Go.Proofs.YtfebndgmmekmgaaGreatDoor.AI Go.Proofs.YtfebndgmmekmgaaGreatDoor.M
namespace NShr
noncomputable def E : Env := { ({ base with C := callsOf [(105, NForm.orc), (106, NTold.orc)] }) with nt := 73, own := [70], keep := fun k => (tlook [(10, [0, 6, 7, 8, 29, 30])] k).getD [], cut := tlook [] }
noncomputable def cod : Code := (Go.Proofs.Tryz.f101.body).getD .skip
theorem nok : namesOk E cod = true := by kernel_rfl
noncomputable def L10 (xs0 : List Int) (x1 : Int) (x2 : Int) (m3 : Nat) (xs4 : List Int) (x5 : Int) (x6 : Int) : Option (List D) := lpO E Go.Proofs.Tryz.f101 cod 10 [(A.v (V.one (L.s (S.ints IntKind.u64 xs0))), none), (A.v (V.one (L.s (S.sc (Value.int IntKind.i64 x1)))), none), (A.v (V.one (L.s (S.sc (Value.int IntKind.i64 x2)))), none), (A.v (V.one (L.buf (3 : Nat) m3)), some { e := (24 : Nat), cont := Cont.ints IntKind.u64 xs4 }), (A.v (V.one (L.s (S.sc (Value.int IntKind.i64 x5)))), none), (A.v (V.one (L.s (S.sc (Value.int IntKind.i64 x6)))), none)]
theorem start (a : List Int) (b : Int) : evalFn E Go.Proofs.Tryz.f101 cod [D.s (S.ints IntKind.u64 a), D.s (S.sc (Value.int IntKind.i64 b))] = bcase (decide (b < (0 : Int))) (some [D.s (S.sc (Value.slice none (0 : Nat) (0 : Nat))), D.s (S.sc (Value.int IntKind.i64 (1 : Int)))]) (gif (a.length ≤ (1099511627776 : Nat)) (bcase (!NForm.formB a) (some [D.s (S.sc (Value.slice none (0 : Nat) (0 : Nat))), D.s (S.sc (Value.int IntKind.i64 (2 : Int)))]) (bcase (decide ((↑a.length : Int) ≤ IntKind.i64.wrap (b.tdiv (64 : Int)))) (some [D.s (S.sc (Value.slice none (0 : Nat) (0 : Nat))), D.s (S.sc (Value.int IntKind.i64 (0 : Int)))]) (if (0 : Int) ≤ IntKind.i64.wrap ((↑a.length : Int) - IntKind.i64.wrap (b.tdiv (64 : Int))) ∧ IntKind.i64.wrap ((↑a.length : Int) - IntKind.i64.wrap (b.tdiv (64 : Int))) ≤ IntKind.i64.wrap ((↑a.length : Int) - IntKind.i64.wrap (b.tdiv (64 : Int))) ∧ IntKind.i64.wrap ((↑a.length : Int) - IntKind.i64.wrap (b.tdiv (64 : Int))) ≤ (8796093022208 : Int) then NShr.L10 a (IntKind.i64.wrap (b.tdiv (64 : Int))) (b.tmod (64 : Int)) (IntKind.i64.wrap ((↑a.length : Int) - IntKind.i64.wrap (b.tdiv (64 : Int)))).toNat (List.replicate (IntKind.i64.wrap ((↑a.length : Int) - IntKind.i64.wrap (b.tdiv (64 : Int)))).toNat (0 : Int)) (↑(IntKind.i64.wrap ((↑a.length : Int) - IntKind.i64.wrap (b.tdiv (64 : Int)))).toNat : Int) (0 : Int) else none)))) := (evalFn_J rfl nok _).trans (by kernel_rfl)
theorem L10_eq (xs0 : List Int) (x1 : Int) (x2 : Int) (m3 : Nat) (xs4 : List Int) (x5 : Int) (x6 : Int) : L10 xs0 x1 x2 m3 xs4 x5 x6 = bcase (decide (x6 < x5)) (if (0 : Int) ≤ IntKind.i64.wrap (x1 + x6) ∧ IntKind.i64.wrap (x1 + x6) < (↑xs0.length : Int) then if x2 < (0 : Int) then none else if (0 : Int) ≤ x6 ∧ x6 < (↑m3 : Int) then bcase (decide (IntKind.i64.wrap (IntKind.i64.wrap (x1 + x6) + (1 : Int)) < (↑xs0.length : Int))) (if (0 : Int) ≤ x6 ∧ x6 < (↑m3 : Int) then if (0 : Int) ≤ IntKind.i64.wrap (IntKind.i64.wrap (x1 + x6) + (1 : Int)) ∧ IntKind.i64.wrap (IntKind.i64.wrap (x1 + x6) + (1 : Int)) < (↑xs0.length : Int) then if IntKind.i64.wrap ((63 : Int) - x2) < (0 : Int) then none else if (0 : Int) ≤ x6 ∧ x6 < (↑m3 : Int) then NShr.L10 xs0 x1 x2 m3 ((xs4.set x6.toNat (xs0.getD (IntKind.i64.wrap (x1 + x6)).toNat (0 : Int) / (↑((2 : Nat) ^ min x2.toNat (64 : Nat)) : Int))).set x6.toNat (bitsI BinOp.or IntKind.u64 ((xs4.set x6.toNat (xs0.getD (IntKind.i64.wrap (x1 + x6)).toNat (0 : Int) / (↑((2 : Nat) ^ min x2.toNat (64 : Nat)) : Int))).getD x6.toNat (0 : Int)) (IntKind.u64.wrap (IntKind.u64.wrap (xs0.getD (IntKind.i64.wrap (IntKind.i64.wrap (x1 + x6) + (1 : Int))).toNat (0 : Int) * (2 : Int)) * (↑((2 : Nat) ^ min (IntKind.i64.wrap ((63 : Int) - x2)).toNat (64 : Nat)) : Int))))) x5 (IntKind.i64.wrap (x6 + (1 : Int))) else none else none else none) (NShr.L10 xs0 x1 x2 m3 (xs4.set x6.toNat (xs0.getD (IntKind.i64.wrap (x1 + x6)).toNat (0 : Int) / (↑((2 : Nat) ^ min x2.toNat (64 : Nat)) : Int))) x5 (IntKind.i64.wrap (x6 + (1 : Int)))) else none else none) (gif (M6.Dig xs4 ∧ xs4.length ≤ (1099511627776 : Nat)) (some [D.s (S.ints IntKind.u64 (bif NTold.okN (M6.val xs4) then M6.dg (M6.val xs4) else [])), D.s (S.sc (Value.int IntKind.i64 (bif NTold.okN (M6.val xs4) then (0 : Int) else (5 : Int))))])) := (loopAt_J rfl nok 10 _).trans (by kernel_rfl)
-- stuck: 0
end NShr
namespace NShr
theorem getD_dropq (a : List Int) (q i : Nat) : (a.drop q).getD i 0 = a.getD (q + i) 0 := by
  simp [List.getD_eq_getElem?_getD, List.getElem?_drop]
theorem high {x k : Nat} (h : k < 64) : x * 2 ^ (64 - k) % 18446744073709551616 = 2 ^ (64 - k) * (x % 2 ^ k) := by
  rw [show (18446744073709551616 : Nat) = 2 ^ (64 - k) * 2 ^ k from by rw [← Nat.pow_add, show 64 - k + k = 64 from by omega], Nat.mul_comm x, Nat.mul_mod_mul_left]
theorem step {a P : List Int} {q k i r : Nat} (ha : M6.Dig a) (hP : P.length = i) (hk : k < 64) (hl : a.length ≤ 8192) (hr : q + i + (r + 1) = a.length) :
    L10 a q k (a.length - q) (P ++ List.replicate (r + 1) 0) ((a.length - q : Nat) : Int) i =
      L10 a q k (a.length - q) ((P ++ [(((a.getD (q + i) 0).toNat / 2 ^ k + 2 ^ (64 - k) * ((a.getD (q + i + 1) 0).toNat % 2 ^ k) : Nat) : Int)]) ++ List.replicate r 0) ((a.length - q : Nat) : Int) ((i + 1 : Nat) : Int) := by
  have g := ha.get (q + i)
  have g1 := ha.get (q + i + 1)
  have w1 : IntKind.i64.wrap ((q : Int) + i) = ((q + i : Nat) : Int) := by rw [wrap_i64 (by omega) (by omega)]; omega
  have w2 : IntKind.i64.wrap (((q + i : Nat) : Int) + 1) = ((q + i + 1 : Nat) : Int) := by rw [wrap_i64 (by omega) (by omega)]; omega
  have w3 : IntKind.i64.wrap (63 - (k : Int)) = ((63 - k : Nat) : Int) := by rw [wrap_i64 (by omega) (by omega)]; omega
  have m1 : min k 64 = k := by omega
  have m2 : min (63 - k) 64 = 63 - k := by omega
  have hx1 : (a.getD (q + i) 0) / ((2 ^ k : Nat) : Int) = (((a.getD (q + i) 0).toNat / 2 ^ k : Nat) : Int) := by
    obtain ⟨x, hx⟩ := Int.eq_ofNat_of_zero_le g.1
    rw [hx, Int.toNat_natCast, Int.natCast_ediv]
  have hlow : (a.getD (q + i) 0).toNat / 2 ^ k < 2 ^ (64 - k) := by
    apply Nat.div_lt_of_lt_mul
    rw [← Nat.pow_add, show k + (64 - k) = 64 from by omega]
    omega
  rw [L10_eq, bD_pos (by omega), w1, if_pos ⟨by omega, by omega⟩, if_neg (by omega), if_pos ⟨by omega, by omega⟩, w2, w3, wrap_i64 (n := (i : Int) + 1) (by omega) (by omega),
    Int.toNat_natCast, Int.toNat_natCast, Int.toNat_natCast, Int.toNat_natCast, Int.toNat_natCast, m1, m2, List.replicate_succ, set_at hP, getD_fill hP, hx1]
  by_cases hn : q + i + 1 < a.length
  · rw [bD_pos (by omega), if_pos ⟨by omega, by omega⟩, if_pos ⟨by omega, by omega⟩, if_neg (by omega), if_pos ⟨by omega, by omega⟩, set_at hP]
    have hw : IntKind.u64.wrap (IntKind.u64.wrap (a.getD (q + i + 1) 0 * 2) * ((2 ^ (63 - k) : Nat) : Int)) = ((2 ^ (64 - k) * ((a.getD (q + i + 1) 0).toNat % 2 ^ k) : Nat) : Int) := by
      obtain ⟨x, hx⟩ := Int.eq_ofNat_of_zero_le g1.1
      have hx2 : IntKind.u64.wrap ((x : Int) * 2) = ((x * 2 % 18446744073709551616 : Nat) : Int) := by rw [wrap_u64_eq]; omega
      have hx3 : ∀ p : Nat, IntKind.u64.wrap (((x * 2 % 18446744073709551616 : Nat) : Int) * (p : Int)) = ((x * 2 * p % 18446744073709551616 : Nat) : Int) := by
        intro p
        rw [wrap_u64_eq, ← Int.natCast_mul, show (18446744073709551616 : Int) = ((18446744073709551616 : Nat) : Int) from rfl, ← Int.natCast_emod, Nat.mul_mod, Nat.mod_mod, ← Nat.mul_mod]
      rw [hx, hx2, hx3, Int.toNat_natCast, ← high hk, show 64 - k = (63 - k) + 1 from by omega, Nat.pow_succ, Nat.mul_assoc, Nat.mul_comm 2]
    have hh : 2 ^ (64 - k) * ((a.getD (q + i + 1) 0).toNat % 2 ^ k) < 18446744073709551616 := by rw [← high hk]; exact Nat.mod_lt _ (by omega)
    have h64 : 2 ^ (64 - k) ≤ 2 ^ 64 := Nat.pow_le_pow_right (by omega) (by omega)
    have hor : bitsI .or .u64 (((a.getD (q + i) 0).toNat / 2 ^ k : Nat) : Int) ((2 ^ (64 - k) * ((a.getD (q + i + 1) 0).toNat % 2 ^ k) : Nat) : Int) = (((a.getD (q + i) 0).toNat / 2 ^ k + 2 ^ (64 - k) * ((a.getD (q + i + 1) 0).toNat % 2 ^ k) : Nat) : Int) := by
      have := or_low (n := (a.getD (q + i + 1) 0).toNat % 2 ^ k) hlow
      rw [← this]
      generalize 2 ^ (64 - k) * ((a.getD (q + i + 1) 0).toNat % 2 ^ k) = Y at *
      generalize (a.getD (q + i) 0).toNat / 2 ^ k = X at *
      generalize 2 ^ (64 - k) = p at *
      rw [or64 (by omega) (by omega) (by omega) (by omega), Int.toNat_natCast, Int.toNat_natCast]
    rw [hw, hor, List.append_assoc, List.singleton_append]
    rfl
  · rw [bD_neg (by omega), M6.getD_none (a := a) (n := q + i + 1) (by omega), show ((0 : Int).toNat % 2 ^ k) = 0 from Nat.zero_mod _, Nat.mul_zero, Nat.add_zero, List.append_assoc, List.singleton_append]
    rfl
theorem L {a : List Int} {q k : Nat} (ha : M6.Nrm a) (hl : a.length ≤ 8192) (hq : q < a.length) (hk : k < 64) : ∀ (r i : Nat) (P : List Int), q + i + r = a.length → P.length = i → M6.Dig P →
    2 ^ k * M6.val P + (a.getD q 0).toNat % 2 ^ k = M6.val ((a.drop q).take i) + 18446744073709551616 ^ i * ((a.getD (q + i) 0).toNat % 2 ^ k) →
    L10 a q k (a.length - q) (P ++ List.replicate r 0) ((a.length - q : Nat) : Int) i = some [D.s (.ints .u64 (M6.dg (M6.val (a.drop q) / 2 ^ k))), D.s (.sc (.int .i64 0))] := by
  intro r
  have hpk : 0 < 2 ^ k := Nat.pow_pos (by omega)
  induction r with
  | zero =>
    intro i P hi hP hd hv
    rw [M6.getD_none (a := a) (n := q + i) (by omega), show ((0 : Int).toNat % 2 ^ k) = 0 from Nat.zero_mod _, Nat.mul_zero, Nat.add_zero, M6.val_take_ge (by rw [List.length_drop]; omega)] at hv
    have hvv : M6.val P = M6.val (a.drop q) / 2 ^ k := by
      rw [← hv, Nat.mul_add_div hpk, Nat.div_eq_of_lt (Nat.mod_lt _ hpk), Nat.add_zero]
    have hok : NTold.okN (M6.val (a.drop q) / 2 ^ k) = true := by
      refine decide_eq_true ?_
      rw [← hvv]
      have := M6.len_val hd
      omega
    rw [List.replicate_zero, List.append_nil, L10_eq, bD_neg (by omega), gP ⟨hd, by omega⟩, hvv, hok]
    rfl
  | succ r ih =>
    intro i P hi hP hd hv
    have g := ha.dig.get (q + i)
    have hlow : (a.getD (q + i) 0).toNat / 2 ^ k < 2 ^ (64 - k) := by
      apply Nat.div_lt_of_lt_mul
      rw [← Nat.pow_add, show k + (64 - k) = 64 from by omega]
      omega
    have e64 : 2 ^ (64 - k) * 2 ^ k = 18446744073709551616 := by rw [← Nat.pow_add, show 64 - k + k = 64 from by omega]
    have hs : (a.getD (q + i) 0).toNat / 2 ^ k + 2 ^ (64 - k) * ((a.getD (q + i + 1) 0).toNat % 2 ^ k) < 18446744073709551616 := by
      have hm : (a.getD (q + i + 1) 0).toNat % 2 ^ k < 2 ^ k := Nat.mod_lt _ hpk
      have h3 : 2 ^ (64 - k) * ((a.getD (q + i + 1) 0).toNat % 2 ^ k + 1) ≤ 2 ^ (64 - k) * 2 ^ k := Nat.mul_le_mul_left _ hm
      rw [e64, Nat.mul_add] at h3
      omega
    rw [step ha.dig hP hk hl (by omega)]
    refine ih (i + 1) _ (by omega) (by simp [hP]) (M6.dig_push hd ⟨Int.natCast_nonneg _, by have := Int.ofNat_lt.2 hs; exact this⟩) ?_
    rw [M6.val_push, hP, M6.val_take_one, getD_dropq, Int.toNat_natCast, ← Nat.add_assoc q i 1, Nat.mul_add, Nat.add_right_comm, hv]
    have hx := Nat.div_add_mod (a.getD (q + i) 0).toNat (2 ^ k)
    generalize (a.getD (q + i) 0).toNat = x at *
    generalize (a.getD (q + i + 1) 0).toNat % 2 ^ k = y at *
    generalize M6.val ((a.drop q).take i) = v at *
    have e1 : 2 ^ k * (18446744073709551616 ^ i * (x / 2 ^ k + 2 ^ (64 - k) * y)) = 18446744073709551616 ^ i * (2 ^ k * (x / 2 ^ k)) + 18446744073709551616 ^ (i + 1) * y := by
      rw [Nat.pow_succ]
      generalize (18446744073709551616 ^ i) = B
      rw [Nat.mul_left_comm, Nat.mul_add, ← Nat.mul_assoc (2 ^ k) (2 ^ (64 - k)), Nat.mul_comm (2 ^ k) (2 ^ (64 - k)), e64, Nat.mul_add, Nat.mul_assoc B]
    rw [e1]
    have e2 : 18446744073709551616 ^ i * x = 18446744073709551616 ^ i * (2 ^ k * (x / 2 ^ k)) + 18446744073709551616 ^ i * (x % 2 ^ k) := by rw [← Nat.mul_add, hx]
    rw [e2]
    omega
noncomputable def sp (a : List Int) (n : Int) : Prop × List D := (M6.Nrm a ∧ a.length ≤ 8192 ∧ 0 ≤ n ∧ n < 4611686018427387904, [.s (.ints .u64 (M6.dg (M6.val a / 2 ^ n.toNat))), .s (.sc (.int .i64 0))])
theorem spec (a : List Int) (n : Int) (h : (sp a n).1) : ∃ rs, evalFn E Tryz.f101 cod [(pI .u64).put a, (pN .i64).put n] = some rs ∧ RsLe rs (sp a n).2 := by
  obtain ⟨ha, hl, h0, h1⟩ := h
  have e := start a n
  have eq : n / 64 = ((n.toNat / 64 : Nat) : Int) := by omega
  have ek : n % 64 = ((n.toNat % 64 : Nat) : Int) := by omega
  rw [bD_neg (by omega), gP (by omega), NForm.form_of ha hl, Bool.not_true, bF, tdiv64 h0, tmod64 h0, wrap_i64 (n := n / 64) (by omega) (by omega), eq, ek] at e
  unfold sp
  simp only
  rw [pow_split6, ← Nat.div_div_eq_div_mul]
  generalize hqq : n.toNat / 64 = q at *
  have hk : n.toNat % 64 < 64 := Nat.mod_lt _ (by omega)
  generalize n.toNat % 64 = k at *
  by_cases hz : a.length ≤ q
  · have hv : M6.val a / 18446744073709551616 ^ q = 0 := Nat.div_eq_of_lt (Nat.lt_of_lt_of_le (M6.val_lt ha.dig) (Nat.pow_le_pow_right (by omega) hz))
    rw [bD_pos (by omega)] at e
    rw [hv, Nat.zero_div, M6.dg_zero]
    exact ⟨_, e, .cons (RLe.nil _) (RsLe.refl _)⟩
  · have hval : M6.val a / 18446744073709551616 ^ q = M6.val (a.drop q) := by
      rw [M6.val_take_drop a (n := q) (by omega), Nat.add_mul_div_left _ _ (Nat.pow_pos (by omega)), Nat.div_eq_of_lt (M6.val_take_lt ha.dig _), Nat.zero_add]
    have w : IntKind.i64.wrap ((a.length : Int) - (q : Int)) = ((a.length - q : Nat) : Int) := by rw [wrap_i64 (by omega) (by omega)]; omega
    rw [bD_neg (by omega), w, if_pos ⟨by omega, by omega, by omega⟩, Int.toNat_natCast] at e
    have := L (q := q) (k := k) ha hl (by omega) hk (a.length - q) 0 [] (by omega) rfl M6.dig_nil (by simp [M6.val])
    rw [hval]
    exact ⟨_, e.trans this, RsLe.refl _⟩

noncomputable def orc : Orc := orc2 (pI .u64) (pN .i64) sp
theorem fnok : FnOk Tryz.prog E 101 Tryz.f101 cod := fnOk ty_ok mixed (callsOk_of _ rfl (orcs_cons NForm.ok (orcs_cons NTold.ok orcs_nil)) (ext_ok)) Tryz.func101 rfl rfl rfl
theorem ok : OrcOk Tryz.prog base.glob 101 orc := fnok.wk2 rfl spec
end NShr
end Go.Proofs.YtfebndgmmekmgaaGreatDoor.W

/- gnomon/dyadic.Make -/
namespace Go.Proofs.YtfebndgmmekmgaaGreatDoor.W
open Go Go.Proofs.YtfebndgmmekmgaaGreatDoor.AI Go.Proofs.YtfebndgmmekmgaaGreatDoor.M
namespace DMake
noncomputable def E : Env := { ({ base with C := callsOf [(60, MForm.orc), (100, NTrail.orc), (101, NShr.orc)] }) with nt := 55, own := [], keep := fun k => (tlook [] k).getD [], cut := tlook [(8, [1, 2, 4, 6])] }
noncomputable def cod : Code := (Go.Proofs.Tryz.f57.body).getD .skip
theorem nok : namesOk E cod = true := by kernel_rfl
noncomputable def J8 (x0 : Int) (b1 : Bool) (xs2 : List Int) (b3 : Bool) (x4 : Int) (x5 : Int) : Option (List D) := ctO E Go.Proofs.Tryz.f57 cod 8 [(A.v (V.one (L.s (S.sc (Value.int IntKind.i64 x0)))), none), (A.v (V.one (L.ptr (1 : Nat) (0 : Nat))), some { e := (26 : Nat), cont := Cont.cells [S.sc (Value.bool b1), S.ints IntKind.u64 xs2] }), (A.v (V.one (L.ptr (2 : Nat) (0 : Nat))), some { e := (28 : Nat), cont := Cont.cells [S.sc (Value.bool b3), S.sc (Value.slice none (0 : Nat) (0 : Nat)), S.sc (Value.int IntKind.i64 x4)] }), (A.v (V.one (L.s (S.sc (Value.int IntKind.i64 x5)))), none)]
theorem start (a1 : Bool) (a2 : List Int) (b : Int) : evalFn E Go.Proofs.Tryz.f57 cod [D.agg [S.sc (Value.bool a1), S.ints IntKind.u64 a2], D.s (S.sc (Value.int IntKind.i64 b))] = gif ((a1, a2).snd.length ≤ (1099511627776 : Nat)) (bcase (!MForm.formI (a1, a2)) (some [D.agg [S.sc (Value.bool false), S.sc (Value.slice none (0 : Nat) (0 : Nat)), S.sc (Value.int IntKind.i64 (0 : Int))], D.s (S.sc (Value.int IntKind.i64 (2 : Int)))]) (bcase ((↑a2.length : Int) == (0 : Int)) (some [D.agg [S.sc (Value.bool false), S.sc (Value.slice none (0 : Nat) (0 : Nat)), S.sc (Value.int IntKind.i64 (0 : Int))], D.s (S.sc (Value.int IntKind.i64 (0 : Int)))]) (gif (M6.Dig a2 ∧ a2.length ≤ (1099511627776 : Nat)) (bcase (decide ((1048576 : Int) < b)) (some [D.agg [S.sc (Value.bool false), S.sc (Value.slice none (0 : Nat) (0 : Nat)), S.sc (Value.int IntKind.i64 (0 : Int))], D.s (S.sc (Value.int IntKind.i64 (5 : Int)))]) (bcase (decide (b < (-1572864 : Int))) (some [D.agg [S.sc (Value.bool false), S.sc (Value.slice none (0 : Nat) (0 : Nat)), S.sc (Value.int IntKind.i64 (0 : Int))], D.s (S.sc (Value.int IntKind.i64 (5 : Int)))]) (bcase (decide (IntKind.i64.wrap (b + (↑(tz (M6.val a2)) : Int)) < (-1048576 : Int))) (some [D.agg [S.sc (Value.bool false), S.sc (Value.slice none (0 : Nat) (0 : Nat)), S.sc (Value.int IntKind.i64 (0 : Int))], D.s (S.sc (Value.int IntKind.i64 (5 : Int)))]) (bcase (decide ((1048576 : Int) < IntKind.i64.wrap (b + (↑(tz (M6.val a2)) : Int)))) (some [D.agg [S.sc (Value.bool false), S.sc (Value.slice none (0 : Nat) (0 : Nat)), S.sc (Value.int IntKind.i64 (0 : Int))], D.s (S.sc (Value.int IntKind.i64 (5 : Int)))]) (DMake.J8 b a1 a2 false (0 : Int) (↑(tz (M6.val a2)) : Int))))))))) := (evalFn_J rfl nok _).trans (by kernel_rfl)
theorem J8_eq (x0 : Int) (b1 : Bool) (xs2 : List Int) (b3 : Bool) (x4 : Int) (x5 : Int) : J8 x0 b1 xs2 b3 x4 x5 = gif (M6.Nrm xs2 ∧ xs2.length ≤ (8192 : Nat) ∧ (0 : Int) ≤ x5 ∧ x5 < (4611686018427387904 : Int)) (some [D.agg [S.sc (Value.bool b1), S.ints IntKind.u64 (M6.dg (M6.val xs2 / (2 : Nat) ^ x5.toNat)), S.sc (Value.int IntKind.i64 (IntKind.i64.wrap (x0 + x5)))], D.s (S.sc (Value.int IntKind.i64 (0 : Int)))]) := (cutAt_J rfl nok 8 _).trans (by kernel_rfl)
-- stuck: 0
end DMake
namespace DMake
noncomputable def sp (x : Bool × List Int) (e : Int) : Prop × List D := (Wok x ∧ -9223372036854775808 ≤ e ∧ e < 9223372036854775808, dE (inD (wv x) e) (nrmD (wv x) e))
theorem nil_dE (p : Int × Int) : RsLe [D.agg [.sc (.bool false), .sc (.slice none 0 0), .sc (.int .i64 0)], .s (.sc (.int .i64 5))] (dE false p) := by
  refine .cons ?_ (RsLe.refl _)
  show RLe _ (M.dD (0, 0))
  unfold dD
  rw [show ((0, 0) : Int × Int).1.natAbs = 0 from rfl, M6.dg_zero]
  exact RLe.agg (.cons (SLe.refl _) (.cons (SLe.nil _) (CsLe.refl _)))
theorem spec (x : Bool × List Int) (e : Int) (h : (sp x e).1) : ∃ rs, evalFn E Tryz.f57 cod [(pG (.pair sB (sI .u64))).put x, (pN .i64).put e] = some rs ∧ RsLe rs (sp x e).2 := by
  obtain ⟨hw, h1, h2⟩ := h
  have s := start x.1 x.2 e
  have hl := hw.len
  have hf := MForm.form_ok hw
  have hb := hw.bl
  obtain ⟨b, a⟩ := x
  have hn : M6.Nrm a := hw.1
  dsimp only at *
  unfold sp
  dsimp only
  rw [gP (by omega), hf, Bool.not_true, bF] at s
  have habs := wv_abs (b, a)
  dsimp only at habs
  by_cases hz : a.length = 0
  · have hv := (M6.len_zero hn).1 hz
    have hw0 : wv (b, a) = 0 := by omega
    rw [bE_pos (by omega)] at s
    refine ⟨_, s, ?_⟩
    rw [hw0]
    refine .cons ?_ (RsLe.refl _)
    show RLe _ (M.dD (0, 0))
    unfold dD
    rw [show ((0, 0) : Int × Int).1.natAbs = 0 from rfl, M6.dg_zero]
    exact RLe.agg (.cons (SLe.refl _) (.cons (SLe.nil _) (CsLe.refl _)))
  · have hv : M6.val a ≠ 0 := fun h => hz ((M6.len_zero hn).2 h)
    have hw0 : wv (b, a) ≠ 0 := by omega
    have ht := tz_bl hv
    have hs := tz_spec _ hv
    have hno : ∀ p : Bool, (p = (decide (-1048576 ≤ e + (tz (M6.val a) : Nat)) && decide (e + (tz (M6.val a) : Nat) ≤ 1048576))) → inD (wv (b, a)) e = p := by
      intro p hp
      unfold inD
      rw [habs, decide_eq_false hw0, Bool.false_or, hp]
    rw [bE_neg (by omega), gP ⟨hn.dig, by omega⟩] at s
    by_cases c1 : 1048576 < e
    · rw [bD_pos c1] at s
      rw [hno false (by rw [decide_eq_false (show ¬ (e + (tz (M6.val a) : Nat) ≤ 1048576) by omega), Bool.and_false])]
      exact ⟨_, s, nil_dE _⟩
    · rw [bD_neg c1] at s
      by_cases c2 : e < -1572864
      · rw [bD_pos c2] at s
        rw [hno false (by rw [decide_eq_false (show ¬ (-1048576 ≤ e + (tz (M6.val a) : Nat)) by omega), Bool.false_and])]
        exact ⟨_, s, nil_dE _⟩
      · have w : IntKind.i64.wrap (e + ((tz (M6.val a) : Nat) : Int)) = e + ((tz (M6.val a) : Nat) : Int) := wrap_i64 (by omega) (by omega)
        rw [bD_neg c2, w] at s
        by_cases c3 : e + ((tz (M6.val a) : Nat) : Int) < -1048576
        · rw [bD_pos c3] at s
          rw [hno false (by rw [decide_eq_false (show ¬ (-1048576 ≤ e + (tz (M6.val a) : Nat)) by omega), Bool.false_and])]
          exact ⟨_, s, nil_dE _⟩
        · rw [bD_neg c3] at s
          by_cases c4 : 1048576 < e + ((tz (M6.val a) : Nat) : Int)
          · rw [bD_pos c4] at s
            rw [hno false (by rw [decide_eq_false (show ¬ (e + (tz (M6.val a) : Nat) ≤ 1048576) by omega), Bool.and_false])]
            exact ⟨_, s, nil_dE _⟩
          · rw [bD_neg c4, J8_eq, gP ⟨hn, hl, by omega, by omega⟩, w, Int.toNat_natCast] at s
            rw [hno true (by rw [decide_eq_true (show (e + (tz (M6.val a) : Nat) ≤ 1048576) by omega), decide_eq_true (show (-1048576 ≤ e + (tz (M6.val a) : Nat)) by omega)]; rfl)]
            refine ⟨_, s, ?_⟩
            have : nrmD (wv (b, a)) e = (zs b (M6.val a / 2 ^ tz (M6.val a)), e + (tz (M6.val a) : Nat)) := by
              unfold nrmD
              rw [if_neg hw0, habs]
              have := zs_div (b := b) (Nat.pow_pos (n := tz (M6.val a)) (show 0 < 2 by decide)) hs.1
              rw [← this]
              rfl
            rw [this]
            have hq : M6.val a / 2 ^ tz (M6.val a) ≠ 0 := by omega
            show RsLe _ [M.dD (zs b (M6.val a / 2 ^ tz (M6.val a)), e + (tz (M6.val a) : Nat)), _]
            unfold dD
            dsimp only
            rw [zs_neg, zs_abs, decide_eq_true hq, Bool.and_true]
            exact RsLe.refl _

noncomputable def orc : Orc := orc2 (pG (.pair sB (sI .u64))) (pN .i64) sp
theorem fnok : FnOk Tryz.prog E 57 Tryz.f57 cod := fnOk ty_ok mixed (callsOk_of _ rfl (orcs_cons MForm.ok (orcs_cons NTrail.ok (orcs_cons NShr.ok orcs_nil))) (ext_ok)) Tryz.func57 rfl rfl rfl
theorem ok : OrcOk Tryz.prog base.glob 57 orc := fnok.wk2 rfl spec
end DMake
end Go.Proofs.YtfebndgmmekmgaaGreatDoor.W

/- gnomon/dyadic.Add -/
namespace Go.Proofs.YtfebndgmmekmgaaGreatDoor.W
open Go Go.Proofs.YtfebndgmmekmgaaGreatDoor.AI Go.Proofs.YtfebndgmmekmgaaGreatDoor.M
namespace DAdd
noncomputable def E : Env := { ({ base with C := callsOf [(53, DForm.orc), (54, DNought.orc), (55, DTwin.orc), (22, MShl.orc), (75, MAdd.orc), (57, DMake.orc)] }) with nt := 79, own := [44, 67, 76], keep := fun k => (tlook [] k).getD [], cut := tlook [(7, [2, 3, 4]), (12, [4, 6, 7, 9])] }
noncomputable def cod : Code := (Go.Proofs.Tryz.f31.body).getD .skip
theorem nok : namesOk E cod = true := by kernel_rfl
noncomputable def J7 (b0 : Bool) (xs1 : List Int) (x2 : Int) (b3 : Bool) (xs4 : List Int) (x5 : Int) (b6 : Bool) (x7 : Int) : Option (List D) := ctO E Go.Proofs.Tryz.f31 cod 7 [(A.v (V.one (L.ptr (0 : Nat) (0 : Nat))), some { e := (28 : Nat), cont := Cont.cells [S.sc (Value.bool b0), S.ints IntKind.u64 xs1, S.sc (Value.int IntKind.i64 x2)] }), (A.v (V.one (L.ptr (1 : Nat) (0 : Nat))), some { e := (28 : Nat), cont := Cont.cells [S.sc (Value.bool b3), S.ints IntKind.u64 xs4, S.sc (Value.int IntKind.i64 x5)] }), (A.v (V.one (L.ptr (2 : Nat) (0 : Nat))), some { e := (28 : Nat), cont := Cont.cells [S.sc (Value.bool b6), S.sc (Value.slice none (0 : Nat) (0 : Nat)), S.sc (Value.int IntKind.i64 x7)] })]
noncomputable def J12 (b0 : Bool) (x1 : Int) (x2 : Int) (b3 : Bool) (xs4 : List Int) (b5 : Bool) (xs6 : List Int) : Option (List D) := ctO E Go.Proofs.Tryz.f31 cod 12 [(A.v (V.one (L.ptr (0 : Nat) (0 : Nat))), some { e := (28 : Nat), cont := Cont.cells [S.sc (Value.bool b0), S.sc (Value.slice none (0 : Nat) (0 : Nat)), S.sc (Value.int IntKind.i64 x1)] }), (A.v (V.one (L.s (S.sc (Value.int IntKind.i64 x2)))), none), (A.v (V.one (L.ptr (2 : Nat) (0 : Nat))), some { e := (26 : Nat), cont := Cont.cells [S.sc (Value.bool b3), S.ints IntKind.u64 xs4] }), (A.v (V.one (L.ptr (3 : Nat) (0 : Nat))), some { e := (26 : Nat), cont := Cont.cells [S.sc (Value.bool b5), S.ints IntKind.u64 xs6] })]
theorem start (a1 : Bool) (a2 : List Int) (a3 : Int) (b1 : Bool) (b2 : List Int) (b3 : Int) : evalFn E Go.Proofs.Tryz.f31 cod [D.agg [S.sc (Value.bool a1), S.ints IntKind.u64 a2, S.sc (Value.int IntKind.i64 a3)], D.agg [S.sc (Value.bool b1), S.ints IntKind.u64 b2, S.sc (Value.int IntKind.i64 b3)]] = gif (DyOk (a1, a2, a3)) (gif (DyOk (b1, b2, b3)) (gif True (bcase ((↑(a2, a3).fst.length : Int) == (0 : Int)) (gif ((b2, b3).fst.length ≤ (1099511627776 : Nat)) (some [D.agg [S.sc (Value.bool (b1, b2, b3).fst), S.ints IntKind.u64 (b2, b3).fst, S.sc (Value.int IntKind.i64 (b2, b3).snd)], D.s (S.sc (Value.int IntKind.i64 (0 : Int)))])) (gif True (bcase ((↑(b2, b3).fst.length : Int) == (0 : Int)) (gif ((a2, a3).fst.length ≤ (1099511627776 : Nat)) (some [D.agg [S.sc (Value.bool (a1, a2, a3).fst), S.ints IntKind.u64 (a2, a3).fst, S.sc (Value.int IntKind.i64 (a2, a3).snd)], D.s (S.sc (Value.int IntKind.i64 (0 : Int)))])) (DAdd.J7 a1 a2 a3 b1 b2 b3 false (0 : Int))))))) := (evalFn_J rfl nok _).trans (by kernel_rfl)
theorem J7_eq (b0 : Bool) (xs1 : List Int) (x2 : Int) (b3 : Bool) (xs4 : List Int) (x5 : Int) (b6 : Bool) (x7 : Int) : J7 b0 xs1 x2 b3 xs4 x5 b6 x7 = gif (Wok (b0, xs1) ∧ (0 : Int) ≤ IntKind.i64.wrap (x2 - if x5 < x2 then x5 else x2) ∧ IntKind.i64.wrap (x2 - if x5 < x2 then x5 else x2) < (4611686018427387904 : Int)) (gif (Wok (b3, xs4) ∧ (0 : Int) ≤ IntKind.i64.wrap (x5 - if x5 < x2 then x5 else x2) ∧ IntKind.i64.wrap (x5 - if x5 < x2 then x5 else x2) < (4611686018427387904 : Int)) (bcase ((bif fit (M6.val (b0, xs1).snd * (2 : Nat) ^ (IntKind.i64.wrap (x2 - if x5 < x2 then x5 else x2)).toNat) then (0 : Int) else (5 : Int)) != (0 : Int)) (some [D.agg [S.sc (Value.bool false), S.sc (Value.slice none (0 : Nat) (0 : Nat)), S.sc (Value.int IntKind.i64 (0 : Int))], D.s (S.sc (Value.int IntKind.i64 (5 : Int)))]) (bcase ((bif fit (M6.val (b3, xs4).snd * (2 : Nat) ^ (IntKind.i64.wrap (x5 - if x5 < x2 then x5 else x2)).toNat) then (0 : Int) else (5 : Int)) != (0 : Int)) (some [D.agg [S.sc (Value.bool false), S.sc (Value.slice none (0 : Nat) (0 : Nat)), S.sc (Value.int IntKind.i64 (0 : Int))], D.s (S.sc (Value.int IntKind.i64 (5 : Int)))]) (DAdd.J12 b6 x7 (if x5 < x2 then x5 else x2) (isNeg (bif fit (M6.val (b0, xs1).snd * (2 : Nat) ^ (IntKind.i64.wrap (x2 - if x5 < x2 then x5 else x2)).toNat) then wv (b0, xs1) * (↑((2 : Nat) ^ (IntKind.i64.wrap (x2 - if x5 < x2 then x5 else x2)).toNat) : Int) else (0 : Int))) (M6.dg (bif fit (M6.val (b0, xs1).snd * (2 : Nat) ^ (IntKind.i64.wrap (x2 - if x5 < x2 then x5 else x2)).toNat) then wv (b0, xs1) * (↑((2 : Nat) ^ (IntKind.i64.wrap (x2 - if x5 < x2 then x5 else x2)).toNat) : Int) else (0 : Int)).natAbs) (isNeg (bif fit (M6.val (b3, xs4).snd * (2 : Nat) ^ (IntKind.i64.wrap (x5 - if x5 < x2 then x5 else x2)).toNat) then wv (b3, xs4) * (↑((2 : Nat) ^ (IntKind.i64.wrap (x5 - if x5 < x2 then x5 else x2)).toNat) : Int) else (0 : Int))) (M6.dg (bif fit (M6.val (b3, xs4).snd * (2 : Nat) ^ (IntKind.i64.wrap (x5 - if x5 < x2 then x5 else x2)).toNat) then wv (b3, xs4) * (↑((2 : Nat) ^ (IntKind.i64.wrap (x5 - if x5 < x2 then x5 else x2)).toNat) : Int) else (0 : Int)).natAbs))))) := (cutAt_J rfl nok 7 _).trans (by kernel_rfl)
theorem J12_eq (b0 : Bool) (x1 : Int) (x2 : Int) (b3 : Bool) (xs4 : List Int) (b5 : Bool) (xs6 : List Int) : J12 b0 x1 x2 b3 xs4 b5 xs6 = gif (Wok (b3, xs4) ∧ Wok (b5, xs6)) (bcase ((bif fit (wv (b3, xs4) + wv (b5, xs6)).natAbs then (0 : Int) else (5 : Int)) != (0 : Int)) (some [D.agg [S.sc (Value.bool false), S.sc (Value.slice none (0 : Nat) (0 : Nat)), S.sc (Value.int IntKind.i64 (0 : Int))], D.s (S.sc (Value.int IntKind.i64 (bif fit (wv (b3, xs4) + wv (b5, xs6)).natAbs then (0 : Int) else (5 : Int))))]) (gif (Wok (isNeg (bif fit (wv (b3, xs4) + wv (b5, xs6)).natAbs then wv (b3, xs4) + wv (b5, xs6) else (0 : Int)), M6.dg (bif fit (wv (b3, xs4) + wv (b5, xs6)).natAbs then wv (b3, xs4) + wv (b5, xs6) else (0 : Int)).natAbs) ∧ (-9223372036854775808 : Int) ≤ x2 ∧ x2 < (9223372036854775808 : Int)) (some [D.agg [S.sc (Value.bool (isNeg (bif inD (wv (isNeg (bif fit (wv (b3, xs4) + wv (b5, xs6)).natAbs then wv (b3, xs4) + wv (b5, xs6) else (0 : Int)), M6.dg (bif fit (wv (b3, xs4) + wv (b5, xs6)).natAbs then wv (b3, xs4) + wv (b5, xs6) else (0 : Int)).natAbs)) x2 then nrmD (wv (isNeg (bif fit (wv (b3, xs4) + wv (b5, xs6)).natAbs then wv (b3, xs4) + wv (b5, xs6) else (0 : Int)), M6.dg (bif fit (wv (b3, xs4) + wv (b5, xs6)).natAbs then wv (b3, xs4) + wv (b5, xs6) else (0 : Int)).natAbs)) x2 else ((0 : Int), (0 : Int))).fst)), S.ints IntKind.u64 (M6.dg (bif inD (wv (isNeg (bif fit (wv (b3, xs4) + wv (b5, xs6)).natAbs then wv (b3, xs4) + wv (b5, xs6) else (0 : Int)), M6.dg (bif fit (wv (b3, xs4) + wv (b5, xs6)).natAbs then wv (b3, xs4) + wv (b5, xs6) else (0 : Int)).natAbs)) x2 then nrmD (wv (isNeg (bif fit (wv (b3, xs4) + wv (b5, xs6)).natAbs then wv (b3, xs4) + wv (b5, xs6) else (0 : Int)), M6.dg (bif fit (wv (b3, xs4) + wv (b5, xs6)).natAbs then wv (b3, xs4) + wv (b5, xs6) else (0 : Int)).natAbs)) x2 else ((0 : Int), (0 : Int))).fst.natAbs), S.sc (Value.int IntKind.i64 (bif inD (wv (isNeg (bif fit (wv (b3, xs4) + wv (b5, xs6)).natAbs then wv (b3, xs4) + wv (b5, xs6) else (0 : Int)), M6.dg (bif fit (wv (b3, xs4) + wv (b5, xs6)).natAbs then wv (b3, xs4) + wv (b5, xs6) else (0 : Int)).natAbs)) x2 then nrmD (wv (isNeg (bif fit (wv (b3, xs4) + wv (b5, xs6)).natAbs then wv (b3, xs4) + wv (b5, xs6) else (0 : Int)), M6.dg (bif fit (wv (b3, xs4) + wv (b5, xs6)).natAbs then wv (b3, xs4) + wv (b5, xs6) else (0 : Int)).natAbs)) x2 else ((0 : Int), (0 : Int))).snd)], D.s (S.sc (Value.int IntKind.i64 (bif inD (wv (isNeg (bif fit (wv (b3, xs4) + wv (b5, xs6)).natAbs then wv (b3, xs4) + wv (b5, xs6) else (0 : Int)), M6.dg (bif fit (wv (b3, xs4) + wv (b5, xs6)).natAbs then wv (b3, xs4) + wv (b5, xs6) else (0 : Int)).natAbs)) x2 then (0 : Int) else (5 : Int))))]))) := (cutAt_J rfl nok 12 _).trans (by kernel_rfl)
-- stuck: 0
end DAdd
namespace DAdd
def addE (p q : Int × Int) : Int := if q.2 < p.2 then q.2 else p.2
def addX (p q : Int × Int) : Int := p.1 * ((2 ^ (p.2 - addE p q).toNat : Nat) : Int)
def addY (p q : Int × Int) : Int := q.1 * ((2 ^ (q.2 - addE p q).toNat : Nat) : Int)
/-- p + q. -/
def addD (p q : Int × Int) : Int × Int := if p.1 = 0 then q else if q.1 = 0 then p else nrmD (addX p q + addY p q) (addE p q)
def addOk (p q : Int × Int) : Bool := decide (p.1 = 0) || (decide (q.1 = 0) || (fit (addX p q).natAbs && (fit (addY p q).natAbs && (fit (addX p q + addY p q).natAbs && inD (addX p q + addY p q) (addE p q)))))
noncomputable def sp (x y : Bool × List Int × Int) : Prop × List D := (DyOk x ∧ DyOk y, dE (addOk (dv x) (dv y)) (addD (dv x) (dv y)))
theorem spec (x y : Bool × List Int × Int) (h : (sp x y).1) : ∃ rs, evalFn E Tryz.f31 cod [(pG (.pair sB (.pair (sI .u64) (sN .i64)))).put x, (pG (.pair sB (.pair (sI .u64) (sN .i64)))).put y] = some rs ∧ RsLe rs (sp x y).2 := by
  obtain ⟨hx, hy⟩ := h
  have s := start x.1 x.2.1 x.2.2 y.1 y.2.1 y.2.2
  have dx := hx.dD
  have dy := hy.dD
  have lx := hx.len
  have ly := hy.len
  have rx := hx.2.1
  have ry := hy.2.1
  have zx := M6.len_zero hx.nrm
  have zy := M6.len_zero hy.nrm
  have wx := hx.wok
  have wy := hy.wok
  obtain ⟨b, a, e⟩ := x
  obtain ⟨c, d, f⟩ := y
  dsimp only at *
  unfold sp
  dsimp only
  have ax := wv_abs (b, a)
  have ay := wv_abs (c, d)
  dsimp only at ax ay
  rw [gP hx, gP hy, gP trivial] at s
  by_cases h0 : a.length = 0
  · have hw : (dv (b, a, e)).1 = 0 := by have := zx.1 h0; show wv (b, a) = 0; omega
    rw [bE_pos (by omega), gP (by omega)] at s
    refine ⟨_, s, ?_⟩
    unfold addOk addD
    rw [decide_eq_true hw, Bool.true_or, if_pos hw]
    show RsLe _ [M.dD (dv (c, d, f)), _]
    rw [dy]
    exact RsLe.refl _
  · have hw : (dv (b, a, e)).1 ≠ 0 := by have : M6.val a ≠ 0 := fun h => h0 (zx.2 h); show wv (b, a) ≠ 0; omega
    rw [bE_neg (by omega), gP trivial] at s
    by_cases g0 : d.length = 0
    · have hv : (dv (c, d, f)).1 = 0 := by have := zy.1 g0; show wv (c, d) = 0; omega
      rw [bE_pos (by omega), gP (by omega)] at s
      refine ⟨_, s, ?_⟩
      unfold addOk addD
      rw [decide_eq_false hw, Bool.false_or, decide_eq_true hv, Bool.true_or, if_neg hw, if_pos hv]
      show RsLe _ [M.dD (dv (b, a, e)), _]
      rw [dx]
      exact RsLe.refl _
    · have hv : (dv (c, d, f)).1 ≠ 0 := by have : M6.val d ≠ 0 := fun h => g0 (zy.2 h); show wv (c, d) ≠ 0; omega
      have i1 : addE (dv (b, a, e)) (dv (c, d, f)) ≤ e ∧ addE (dv (b, a, e)) (dv (c, d, f)) ≤ f ∧ -1048576 ≤ addE (dv (b, a, e)) (dv (c, d, f)) := by
        unfold addE dv
        dsimp only
        split <;> omega
      have u1 : IntKind.i64.wrap (e - addE (dv (b, a, e)) (dv (c, d, f))) = e - addE (dv (b, a, e)) (dv (c, d, f)) := wrap_i64 (by omega) (by omega)
      have u2 : IntKind.i64.wrap (f - addE (dv (b, a, e)) (dv (c, d, f))) = f - addE (dv (b, a, e)) (dv (c, d, f)) := wrap_i64 (by omega) (by omega)
      have e1 : (if f < e then f else e) = addE (dv (b, a, e)) (dv (c, d, f)) := rfl
      have f1 : M6.val a * 2 ^ (e - addE (dv (b, a, e)) (dv (c, d, f))).toNat = (addX (dv (b, a, e)) (dv (c, d, f))).natAbs := by
        show _ = (wv (b, a) * _).natAbs
        rw [Int.natAbs_mul, ax, Int.natAbs_natCast]
        rfl
      have f2 : M6.val d * 2 ^ (f - addE (dv (b, a, e)) (dv (c, d, f))).toNat = (addY (dv (b, a, e)) (dv (c, d, f))).natAbs := by
        show _ = (wv (c, d) * _).natAbs
        rw [Int.natAbs_mul, ay, Int.natAbs_natCast]
        rfl
      have f3 : wv (b, a) * ((2 ^ (e - addE (dv (b, a, e)) (dv (c, d, f))).toNat : Nat) : Int) = addX (dv (b, a, e)) (dv (c, d, f)) := rfl
      have f4 : wv (c, d) * ((2 ^ (f - addE (dv (b, a, e)) (dv (c, d, f))).toNat : Nat) : Int) = addY (dv (b, a, e)) (dv (c, d, f)) := rfl
      rw [bE_neg (by omega), J7_eq, e1, u1, u2] at s
      dsimp only at s
      rw [f1, f2, f3, f4, gP ⟨wx, by omega, by omega⟩, gP ⟨wy, by omega, by omega⟩] at s
      have ao : addOk (dv (b, a, e)) (dv (c, d, f)) = (fit (addX (dv (b, a, e)) (dv (c, d, f))).natAbs && (fit (addY (dv (b, a, e)) (dv (c, d, f))).natAbs && (fit (addX (dv (b, a, e)) (dv (c, d, f)) + addY (dv (b, a, e)) (dv (c, d, f))).natAbs && inD (addX (dv (b, a, e)) (dv (c, d, f)) + addY (dv (b, a, e)) (dv (c, d, f))) (addE (dv (b, a, e)) (dv (c, d, f)))))) := by
        unfold addOk
        rw [decide_eq_false hw, Bool.false_or, decide_eq_false hv, Bool.false_or]
      have ad : addD (dv (b, a, e)) (dv (c, d, f)) = nrmD (addX (dv (b, a, e)) (dv (c, d, f)) + addY (dv (b, a, e)) (dv (c, d, f))) (addE (dv (b, a, e)) (dv (c, d, f))) := by
        unfold addD
        rw [if_neg hw, if_neg hv]
      rw [ao, ad]
      generalize addX (dv (b, a, e)) (dv (c, d, f)) = X at *
      generalize addY (dv (b, a, e)) (dv (c, d, f)) = Y at *
      generalize addE (dv (b, a, e)) (dv (c, d, f)) = k at *
      cases c1 : fit X.natAbs with
      | false =>
        rw [c1, cond_false, bN_pos (by omega)] at s
        rw [Bool.false_and]
        exact ⟨_, s, DMake.nil_dE _⟩
      | true =>
        rw [c1, cond_true, bN_neg rfl] at s
        cases c2 : fit Y.natAbs with
        | false =>
          rw [c2, cond_false, bN_pos (by omega)] at s
          rw [Bool.false_and, Bool.and_false]
          exact ⟨_, s, DMake.nil_dE _⟩
        | true =>
          rw [c2, cond_true, bN_neg rfl, J12_eq, gP ⟨wok_wD (fit_le c1), wok_wD (fit_le c2)⟩] at s
          dsimp only [cond_true] at s
          rw [wv_wD, wv_wD] at s
          cases c3 : fit (X + Y).natAbs with
          | false =>
            rw [c3] at s
            dsimp only [cond_false] at s
            rw [bN_pos (by omega)] at s
            rw [Bool.false_and, Bool.and_false, Bool.and_false]
            exact ⟨_, s, DMake.nil_dE _⟩
          | true =>
            rw [c3] at s
            dsimp only [cond_true] at s
            rw [bN_neg rfl, gP ⟨wok_wD (fit_le c3), by omega, by omega⟩, wv_wD] at s
            rw [Bool.true_and, Bool.true_and, Bool.true_and]
            exact ⟨_, s, RsLe.refl _⟩

noncomputable def orc : Orc := orc2 (pG (.pair sB (.pair (sI .u64) (sN .i64)))) (pG (.pair sB (.pair (sI .u64) (sN .i64)))) sp
theorem fnok : FnOk Tryz.prog E 31 Tryz.f31 cod := fnOk ty_ok mixed (callsOk_of _ rfl (orcs_cons DForm.ok (orcs_cons DNought.ok (orcs_cons DTwin.ok (orcs_cons MShl.ok (orcs_cons MAdd.ok (orcs_cons DMake.ok orcs_nil)))))) (ext_ok)) Tryz.func31 rfl rfl rfl
theorem ok : OrcOk Tryz.prog base.glob 31 orc := fnok.wk2 rfl spec
end DAdd
end Go.Proofs.YtfebndgmmekmgaaGreatDoor.W

/- gnomon/dyadic.Scale -/
namespace Go.Proofs.YtfebndgmmekmgaaGreatDoor.W
open Go Go.Proofs.YtfebndgmmekmgaaGreatDoor.AI Go.Proofs.YtfebndgmmekmgaaGreatDoor.M
namespace DScale
noncomputable def E : Env := { ({ base with C := callsOf [(53, DForm.orc), (54, DNought.orc), (55, DTwin.orc)] }) with nt := 45, own := [], keep := fun k => (tlook [] k).getD [], cut := tlook [(7, [1, 2, 4])] }
noncomputable def cod : Code := (Go.Proofs.Tryz.f17.body).getD .skip
theorem nok : namesOk E cod = true := by kernel_rfl
noncomputable def J7 (x0 : Int) (b1 : Bool) (xs2 : List Int) (x3 : Int) (b4 : Bool) (x5 : Int) : Option (List D) := ctO E Go.Proofs.Tryz.f17 cod 7 [(A.v (V.one (L.s (S.sc (Value.int IntKind.i64 x0)))), none), (A.v (V.one (L.ptr (1 : Nat) (0 : Nat))), some { e := (28 : Nat), cont := Cont.cells [S.sc (Value.bool b1), S.ints IntKind.u64 xs2, S.sc (Value.int IntKind.i64 x3)] }), (A.v (V.one (L.ptr (2 : Nat) (0 : Nat))), some { e := (28 : Nat), cont := Cont.cells [S.sc (Value.bool b4), S.sc (Value.slice none (0 : Nat) (0 : Nat)), S.sc (Value.int IntKind.i64 x5)] })]
theorem start (a1 : Bool) (a2 : List Int) (a3 : Int) (b : Int) : evalFn E Go.Proofs.Tryz.f17 cod [D.agg [S.sc (Value.bool a1), S.ints IntKind.u64 a2, S.sc (Value.int IntKind.i64 a3)], D.s (S.sc (Value.int IntKind.i64 b))] = gif (DyOk (a1, a2, a3)) (gif True (bcase ((↑(a2, a3).fst.length : Int) == (0 : Int)) (some [D.agg [S.sc (Value.bool false), S.sc (Value.slice none (0 : Nat) (0 : Nat)), S.sc (Value.int IntKind.i64 (0 : Int))], D.s (S.sc (Value.int IntKind.i64 (0 : Int)))]) (bcase (decide ((2097152 : Int) < b)) (some [D.agg [S.sc (Value.bool false), S.sc (Value.slice none (0 : Nat) (0 : Nat)), S.sc (Value.int IntKind.i64 (0 : Int))], D.s (S.sc (Value.int IntKind.i64 (5 : Int)))]) (bcase (decide (b < (-2097152 : Int))) (some [D.agg [S.sc (Value.bool false), S.sc (Value.slice none (0 : Nat) (0 : Nat)), S.sc (Value.int IntKind.i64 (0 : Int))], D.s (S.sc (Value.int IntKind.i64 (5 : Int)))]) (bcase (decide ((1048576 : Int) < IntKind.i64.wrap (a3 + b))) (some [D.agg [S.sc (Value.bool false), S.sc (Value.slice none (0 : Nat) (0 : Nat)), S.sc (Value.int IntKind.i64 (0 : Int))], D.s (S.sc (Value.int IntKind.i64 (5 : Int)))]) (bcase (decide (IntKind.i64.wrap (a3 + b) < (-1048576 : Int))) (some [D.agg [S.sc (Value.bool false), S.sc (Value.slice none (0 : Nat) (0 : Nat)), S.sc (Value.int IntKind.i64 (0 : Int))], D.s (S.sc (Value.int IntKind.i64 (5 : Int)))]) (DScale.J7 b a1 a2 a3 false (0 : Int)))))))) := (evalFn_J rfl nok _).trans (by kernel_rfl)
theorem J7_eq (x0 : Int) (b1 : Bool) (xs2 : List Int) (x3 : Int) (b4 : Bool) (x5 : Int) : J7 x0 b1 xs2 x3 b4 x5 = gif ((xs2, x3).fst.length ≤ (1099511627776 : Nat)) (some [D.agg [S.sc (Value.bool (b1, xs2, x3).fst), S.ints IntKind.u64 (xs2, x3).fst, S.sc (Value.int IntKind.i64 (IntKind.i64.wrap ((xs2, x3).snd + x0)))], D.s (S.sc (Value.int IntKind.i64 (0 : Int)))]) := (cutAt_J rfl nok 7 _).trans (by kernel_rfl)
-- stuck: 0
end DScale
namespace DScale
/-- p * 2^n. -/
def scD (p : Int × Int) (n : Int) : Int × Int := if p.1 = 0 then (0, 0) else (p.1, p.2 + n)
def scOk (p : Int × Int) (n : Int) : Bool := decide (p.1 = 0) || (decide (-1048576 ≤ p.2 + n) && decide (p.2 + n ≤ 1048576))
noncomputable def sp (x : Bool × List Int × Int) (n : Int) : Prop × List D := (DyOk x ∧ -9223372036854775808 ≤ n ∧ n < 9223372036854775808, dE (scOk (dv x) n) (scD (dv x) n))
theorem spec (x : Bool × List Int × Int) (n : Int) (h : (sp x n).1) : ∃ rs, evalFn E Tryz.f17 cod [(pG (.pair sB (.pair (sI .u64) (sN .i64)))).put x, (pN .i64).put n] = some rs ∧ RsLe rs (sp x n).2 := by
  obtain ⟨h, h1, h2⟩ := h
  have hl := h.len
  have hd := h.dD
  have hr := h.2.1
  have s := start x.1 x.2.1 x.2.2 n
  obtain ⟨b, a, e⟩ := x
  dsimp only at *
  unfold sp
  dsimp only
  have hz := M6.len_zero h.nrm
  have ha := wv_abs (b, a)
  dsimp only at ha hz
  rw [gP h, gP trivial] at s
  by_cases h0 : a.length = 0
  · have hw : (dv (b, a, e)).1 = 0 := by have := hz.1 h0; show wv (b, a) = 0; omega
    rw [bE_pos (by omega)] at s
    refine ⟨_, s, ?_⟩
    unfold scOk scD
    rw [decide_eq_true hw, Bool.true_or, if_pos hw]
    refine .cons ?_ (RsLe.refl _)
    show RLe _ (M.dD (0, 0))
    unfold M.dD
    rw [show ((0, 0) : Int × Int).1.natAbs = 0 from rfl, M6.dg_zero]
    exact RLe.agg (.cons (SLe.refl _) (.cons (SLe.nil _) (CsLe.refl _)))
  · have hw : (dv (b, a, e)).1 ≠ 0 := by have : M6.val a ≠ 0 := fun h => h0 (hz.2 h); show wv (b, a) ≠ 0; omega
    have hno : ∀ p : Bool, (p = (decide (-1048576 ≤ e + n) && decide (e + n ≤ 1048576))) → scOk (dv (b, a, e)) n = p := by
      intro p hp
      unfold scOk
      rw [decide_eq_false hw, Bool.false_or, hp]
      rfl
    rw [bE_neg (by omega)] at s
    by_cases c1 : 2097152 < n
    · rw [bD_pos c1] at s
      rw [hno false (by rw [decide_eq_false (show ¬ (e + n ≤ 1048576) by omega), Bool.and_false])]
      exact ⟨_, s, DMake.nil_dE _⟩
    · rw [bD_neg c1] at s
      by_cases c2 : n < -2097152
      · rw [bD_pos c2] at s
        rw [hno false (by rw [decide_eq_false (show ¬ (-1048576 ≤ e + n) by omega), Bool.false_and])]
        exact ⟨_, s, DMake.nil_dE _⟩
      · have w : IntKind.i64.wrap (e + n) = e + n := wrap_i64 (by omega) (by omega)
        rw [bD_neg c2, w] at s
        by_cases c3 : 1048576 < e + n
        · rw [bD_pos c3] at s
          rw [hno false (by rw [decide_eq_false (show ¬ (e + n ≤ 1048576) by omega), Bool.and_false])]
          exact ⟨_, s, DMake.nil_dE _⟩
        · rw [bD_neg c3] at s
          by_cases c4 : e + n < -1048576
          · rw [bD_pos c4] at s
            rw [hno false (by rw [decide_eq_false (show ¬ (-1048576 ≤ e + n) by omega), Bool.false_and])]
            exact ⟨_, s, DMake.nil_dE _⟩
          · rw [bD_neg c4, J7_eq] at s
            dsimp only at s
            rw [gP (by omega), w] at s
            rw [hno true (by rw [decide_eq_true (show (e + n ≤ 1048576) by omega), decide_eq_true (show (-1048576 ≤ e + n) by omega)]; rfl)]
            refine ⟨_, s, ?_⟩
            unfold scD
            rw [if_neg hw]
            have hc := h.wok.cells
            show RsLe _ [M.dD (wv (b, a), e + n), _]
            unfold M.dD
            dsimp only
            rw [hc.1, hc.2]
            exact RsLe.refl _

noncomputable def orc : Orc := orc2 (pG (.pair sB (.pair (sI .u64) (sN .i64)))) (pN .i64) sp
theorem fnok : FnOk Tryz.prog E 17 Tryz.f17 cod := fnOk ty_ok mixed (callsOk_of _ rfl (orcs_cons DForm.ok (orcs_cons DNought.ok (orcs_cons DTwin.ok orcs_nil))) (ext_ok)) Tryz.func17 rfl rfl rfl
theorem ok : OrcOk Tryz.prog base.glob 17 orc := fnok.wk2 rfl spec
end DScale
end Go.Proofs.YtfebndgmmekmgaaGreatDoor.W

/- gnomon/nat.Bit -/
namespace Go.Proofs.YtfebndgmmekmgaaGreatDoor.W
open Go Go.Proofs.YtfebndgmmekmgaaGreatDoor.AI Go.Proofs.YtfebndgmmekmgaaGreatDoor.M
namespace NBit
noncomputable def E : Env := { (base) with nt := 24, own := [], keep := fun k => (tlook [] k).getD [], cut := tlook [(3, [0, 1])] }
noncomputable def cod : Code := (Go.Proofs.Tryz.f208.body).getD .skip
theorem nok : namesOk E cod = true := by kernel_rfl
noncomputable def J3 (xs0 : List Int) (x1 : Int) : Option (List D) := ctO E Go.Proofs.Tryz.f208 cod 3 [(A.v (V.one (L.s (S.ints IntKind.u64 xs0))), none), (A.v (V.one (L.s (S.sc (Value.int IntKind.i64 x1)))), none)]
theorem start (a : List Int) (b : Int) : evalFn E Go.Proofs.Tryz.f208 cod [D.s (S.ints IntKind.u64 a), D.s (S.sc (Value.int IntKind.i64 b))] = bcase (decide (b < (0 : Int))) (some [D.s (S.sc (Value.bool false))]) (bcase (decide ((↑a.length : Int) ≤ IntKind.i64.wrap (b.tdiv (64 : Int)))) (some [D.s (S.sc (Value.bool false))]) (NBit.J3 a b)) := (evalFn_J rfl nok _).trans (by kernel_rfl)
theorem J3_eq (xs0 : List Int) (x1 : Int) : J3 xs0 x1 = if (0 : Int) ≤ IntKind.i64.wrap (x1.tdiv (64 : Int)) ∧ IntKind.i64.wrap (x1.tdiv (64 : Int)) < (↑xs0.length : Int) then if x1.tmod (64 : Int) < (0 : Int) then none else some [D.s (S.sc (Value.bool (bitsI BinOp.and IntKind.u64 (xs0.getD (IntKind.i64.wrap (x1.tdiv (64 : Int))).toNat (0 : Int) / (↑((2 : Nat) ^ min (x1.tmod (64 : Int)).toNat (64 : Nat)) : Int)) (1 : Int) == (1 : Int))))] else none := (cutAt_J rfl nok 3 _).trans (by kernel_rfl)
-- stuck: 0
end NBit
namespace NBit
noncomputable def sp (a : List Int) (i : Int) : Prop × List D := (M6.Dig a ∧ a.length ≤ 1099511627776 ∧ -9223372036854775808 ≤ i ∧ i < 9223372036854775808, [.s (.sc (.bool (decide (0 ≤ i) && decide (M6.val a / 2 ^ i.toNat % 2 = 1))))])
theorem and_one {x : Int} (h : 0 ≤ x) (h' : x < 18446744073709551616) : bitsI .and .u64 x 1 = x % 2 := by
  rw [and64 h h' (by omega) (by omega)]
  have : x.toNat &&& 1 = x.toNat % 2 := Nat.and_one_is_mod _
  show ((x.toNat &&& 1 : Nat) : Int) = _
  rw [this]
  omega
theorem spec (a : List Int) (i : Int) (h : (sp a i).1) : evalFn E Tryz.f208 cod [(pI .u64).put a, (pN .i64).put i] = some (sp a i).2 := by
  obtain ⟨ha, hl, h1, h2⟩ := h
  refine (start a i).trans ?_
  show _ = some [D.s (.sc (.bool (decide (0 ≤ i) && decide (M6.val a / 2 ^ i.toNat % 2 = 1))))]
  by_cases hn : i < 0
  · rw [bD_pos hn, decide_eq_false (show ¬ 0 ≤ i by omega), Bool.false_and]
  · have t1 : i.tdiv 64 = i / 64 := Int.tdiv_eq_ediv_of_nonneg (by omega)
    have t2 : i.tmod 64 = i % 64 := Int.tmod_eq_emod_of_nonneg (by omega)
    have e1 : (i / 64).toNat = i.toNat / 64 := by omega
    have e2 : (i % 64).toNat = i.toNat % 64 := by omega
    have ps : 2 ^ i.toNat = 18446744073709551616 ^ (i.toNat / 64) * 2 ^ (i.toNat % 64) := by
      rw [show (18446744073709551616 : Nat) = 2 ^ 64 from rfl, ← Nat.pow_mul, ← Nat.pow_add]; congr 1; omega
    rw [bD_neg hn, decide_eq_true (show 0 ≤ i by omega), Bool.true_and, t1, wrap_i64 (n := i / 64) (by omega) (by omega), ps, ← Nat.div_div_eq_div_mul]
    by_cases hz : (a.length : Int) ≤ i / 64
    · have hv : M6.val a / 18446744073709551616 ^ (i.toNat / 64) = 0 := by
        apply Nat.div_eq_of_lt
        exact Nat.lt_of_lt_of_le (M6.val_lt ha) (Nat.pow_le_pow_right (by omega) (by omega))
      rw [bD_pos hz, hv, Nat.zero_div]
      rfl
    · have g := ha.get (i.toNat / 64)
      have hv := M6.val_take_drop a (n := i.toNat / 64) (by omega)
      have hq : M6.val a / 18446744073709551616 ^ (i.toNat / 64) = M6.val (a.drop (i.toNat / 64)) := by
        rw [hv, Nat.add_mul_div_left _ _ (Nat.pow_pos (by omega)), Nat.div_eq_of_lt (M6.val_take_lt ha _), Nat.zero_add]
      rw [bD_neg hz, J3_eq, t1, t2, wrap_i64 (n := i / 64) (by omega) (by omega), if_pos (by omega), if_neg (by omega), e1, e2, hq, M6.val_drop_one]
      have em : min (i.toNat % 64) 64 = i.toNat % 64 := by omega
      have hlt : i.toNat % 64 < 64 := Nat.mod_lt _ (by omega)
      rw [em]
      generalize i.toNat % 64 = k at *
      generalize a.getD (i.toNat / 64) 0 = x at *
      generalize M6.val (a.drop (i.toNat / 64 + 1)) = r at *
      have hp : 0 < 2 ^ k := Nat.pow_pos (by omega)
      have e3 : (x.toNat + 18446744073709551616 * r) / 2 ^ k % 2 = x.toNat / 2 ^ k % 2 := by
        have : 18446744073709551616 * r = 2 ^ k * (2 * (2 ^ (63 - k) * r)) := by
          rw [show (18446744073709551616 : Nat) = 2 ^ 64 from rfl, show 64 = k + (1 + (63 - k)) from by omega, Nat.pow_add, Nat.pow_add, Nat.mul_assoc, Nat.mul_assoc]
        rw [this, Nat.add_mul_div_left _ _ hp]
        omega
      rw [e3]
      have ex : x / ((2 ^ k : Nat) : Int) = ((x.toNat / 2 ^ k : Nat) : Int) := by
        obtain ⟨n, rfl⟩ := Int.eq_ofNat_of_zero_le g.1
        rw [← Int.natCast_ediv]; rfl
      have hle : x.toNat / 2 ^ k ≤ x.toNat := Nat.div_le_self _ _
      rw [ex]
      clear ex e3 hq hv ps
      generalize x.toNat / 2 ^ k = q at *
      rw [and_one (by omega) (by omega)]
      congr 4
      by_cases h : q % 2 = 1
      · rw [decide_eq_true h]
        have : ((q : Int) % 2) = 1 := by omega
        rw [this]; rfl
      · rw [decide_eq_false h]
        have : ((q : Int) % 2) = 0 := by omega
        rw [this]; rfl

noncomputable def orc : Orc := orc2 (pI .u64) (pN .i64) sp
theorem fnok : FnOk Tryz.prog E 208 Tryz.f208 cod := fnOk ty_ok mixed (callsOk_of _ rfl orcs_nil (ext_ok)) Tryz.func208 rfl rfl rfl
theorem ok : OrcOk Tryz.prog base.glob 208 orc := fnok.ok2 rfl spec
end NBit
end Go.Proofs.YtfebndgmmekmgaaGreatDoor.W

/- (gnomon/num.way).more -/
namespace Go.Proofs.YtfebndgmmekmgaaGreatDoor.W
open Go Go.Proofs.YtfebndgmmekmgaaGreatDoor.AI Go.Proofs.YtfebndgmmekmgaaGreatDoor.M
namespace MMore
noncomputable def E : Env := { (base) with nt := 34, own := [], keep := fun k => (tlook [] k).getD [], cut := tlook [] }
noncomputable def cod : Code := (Go.Proofs.Tryz.f215.body).getD .skip
theorem nok : namesOk E cod = true := by kernel_rfl
theorem start (a : Int) (b : Bool) (c : Bool) (d : Bool) (e : Int) : evalFn E Go.Proofs.Tryz.f215 cod [D.s (S.sc (Value.int IntKind.i64 a)), D.s (S.sc (Value.bool b)), D.s (S.sc (Value.bool c)), D.s (S.sc (Value.bool d)), D.s (S.sc (Value.int IntKind.i64 e))] = bcase (a == (0 : Int)) (bcase b (some [D.s (S.sc (Value.bool d))]) (some [D.s (S.sc (Value.bool false))])) (bcase (a == (1 : Int)) (bcase (!b) (some [D.s (S.sc (Value.bool d))]) (some [D.s (S.sc (Value.bool false))])) (bcase (decide ((0 : Int) < e)) (some [D.s (S.sc (Value.bool true))]) (bcase (e == (0 : Int)) (some [D.s (S.sc (Value.bool c))]) (some [D.s (S.sc (Value.bool false))])))) := (evalFn_J rfl nok _).trans (by kernel_rfl)
-- stuck: 0
end MMore
namespace MMore
def moreB (w : Int) (neg odd rest : Bool) (half : Int) : Bool := bif w == 0 then neg && rest else bif w == 1 then !neg && rest else (decide (0 < half) || (half == 0 && odd))
noncomputable def sp (a : Int) (b c d : Bool) (e : Int) : Prop × List D := (True, [.s (.sc (.bool (moreB a b c d e)))])
theorem spec (a : Int) (b c d : Bool) (e : Int) (h : (sp a b c d e).1) : evalFn E Tryz.f215 cod [(pN .i64).put a, pB.put b, pB.put c, pB.put d, (pN .i64).put e] = some (sp a b c d e).2 := by
  refine (start a b c d e).trans ?_
  show _ = some [D.s (.sc (.bool (moreB a b c d e)))]
  unfold moreB bcase
  cases (a == 0) <;> cases (a == 1) <;> cases b <;> cases c <;> cases d <;> cases (decide (0 < e)) <;> cases (e == 0) <;> rfl

noncomputable def orc : Orc := orc5 (pN .i64) pB pB pB (pN .i64) sp
theorem fnok : FnOk Tryz.prog E 215 Tryz.f215 cod := fnOk ty_ok mixed (callsOk_of _ rfl orcs_nil (ext_ok)) Tryz.func215 rfl rfl rfl
theorem ok : OrcOk Tryz.prog base.glob 215 orc := fnok.ok5 rfl spec
end MMore
end Go.Proofs.YtfebndgmmekmgaaGreatDoor.W

/- gnomon/nat.Word -/
namespace Go.Proofs.YtfebndgmmekmgaaGreatDoor.W
open Go Go.Proofs.YtfebndgmmekmgaaGreatDoor.AI Go.Proofs.YtfebndgmmekmgaaGreatDoor.M
namespace NWord
noncomputable def E : Env := { (base) with nt := 7, own := [], keep := fun k => (tlook [] k).getD [], cut := tlook [] }
noncomputable def cod : Code := (Go.Proofs.Tryz.f66.body).getD .skip
theorem nok : namesOk E cod = true := by kernel_rfl
theorem start (a : Int) : evalFn E Go.Proofs.Tryz.f66 cod [D.s (S.sc (Value.int IntKind.u64 a))] = bcase (a == (0 : Int)) (some [D.s (S.sc (Value.slice none (0 : Nat) (0 : Nat)))]) (some [D.own (24 : Nat) IntKind.u64 [a]]) := (evalFn_J rfl nok _).trans (by kernel_rfl)
-- stuck: 0
end NWord
namespace NWord
noncomputable def sp (w : Int) : Prop × List D := (0 ≤ w ∧ w < 18446744073709551616, [.s (.ints .u64 (M6.dg w.toNat))])
theorem spec (w : Int) (h : (sp w).1) : ∃ rs, evalFn E Tryz.f66 cod [(pN .u64).put w] = some rs ∧ RsLe rs (sp w).2 := by
  have e := start w
  obtain ⟨h1, h2⟩ := h
  unfold sp
  simp only
  by_cases hz : w = 0
  · rw [bE_pos hz] at e
    subst hz
    rw [show (0 : Int).toNat = 0 from rfl, M6.dg_zero]
    exact ⟨_, e, .cons (RLe.nil _) .nil⟩
  · rw [bE_neg hz] at e
    have : M6.dg w.toNat = [w] := by
      rw [M6.dg_pos (by omega), Nat.mod_eq_of_lt (by omega), Nat.div_eq_of_lt (by omega), M6.dg_zero]
      congr 1
      omega
    rw [this]
    exact ⟨_, e, .cons (RLe.own _ _ _) .nil⟩

noncomputable def orc : Orc := orc1 (pN .u64) sp
theorem fnok : FnOk Tryz.prog E 66 Tryz.f66 cod := fnOk ty_ok mixed (callsOk_of _ rfl orcs_nil (ext_ok)) Tryz.func66 rfl rfl rfl
theorem ok : OrcOk Tryz.prog base.glob 66 orc := fnok.wk1 rfl spec
end NWord
end Go.Proofs.YtfebndgmmekmgaaGreatDoor.W

/- (gnomon/num.way).made -/
namespace Go.Proofs.YtfebndgmmekmgaaGreatDoor.W
open Go Go.Proofs.YtfebndgmmekmgaaGreatDoor.AI Go.Proofs.YtfebndgmmekmgaaGreatDoor.M
namespace MMade
noncomputable def E : Env := { ({ base with C := callsOf [(208, NBit.orc), (215, MMore.orc), (62, MTold.orc), (66, NWord.orc), (127, NAdd.orc)] }) with nt := 39, own := [24, 36], keep := fun k => (tlook [] k).getD [], cut := tlook [] }
noncomputable def cod : Code := (Go.Proofs.Tryz.f209.body).getD .skip
theorem nok : namesOk E cod = true := by kernel_rfl
theorem start (a : Int) (b : Bool) (c : List Int) (d : Bool) (e : Int) : evalFn E Go.Proofs.Tryz.f209 cod [D.s (S.sc (Value.int IntKind.i64 a)), D.s (S.sc (Value.bool b)), D.s (S.ints IntKind.u64 c), D.s (S.sc (Value.bool d)), D.s (S.sc (Value.int IntKind.i64 e))] = gif (M6.Dig c ∧ c.length ≤ (1099511627776 : Nat) ∧ (-9223372036854775808 : Int) ≤ (0 : Int) ∧ (0 : Int) < (9223372036854775808 : Int)) (gif True (bcase (!MMore.moreB a b (true && decide (M6.val c / (1 : Nat) % (2 : Nat) = (1 : Nat))) d e) (gif (M6.Nrm c ∧ c.length ≤ (1099511627776 : Nat)) (some [D.agg [S.sc (Value.bool (isNeg (zs b (M6.val c)))), S.ints IntKind.u64 (M6.dg (zs b (M6.val c)).natAbs)], D.s (S.sc (Value.int IntKind.i64 (0 : Int)))])) (gif ((0 : Int) ≤ (1 : Int) ∧ (1 : Int) < (18446744073709551616 : Int)) (gif (M6.Nrm c ∧ M6.Nrm (M6.dg (1 : Nat)) ∧ c.length ≤ (8192 : Nat) ∧ (M6.dg (1 : Nat)).length ≤ (8192 : Nat)) (gif (M6.Nrm (bif NTold.okN (M6.val c + M6.val (M6.dg (1 : Nat))) then M6.dg (M6.val c + M6.val (M6.dg (1 : Nat))) else []) ∧ (bif NTold.okN (M6.val c + M6.val (M6.dg (1 : Nat))) then M6.dg (M6.val c + M6.val (M6.dg (1 : Nat))) else []).length ≤ (1099511627776 : Nat)) (some [D.agg [S.sc (Value.bool (isNeg (bif (bif NTold.okN (M6.val c + M6.val (M6.dg (1 : Nat))) then (0 : Int) else (5 : Int)) == (0 : Int) then zs b (M6.val (bif NTold.okN (M6.val c + M6.val (M6.dg (1 : Nat))) then M6.dg (M6.val c + M6.val (M6.dg (1 : Nat))) else [])) else (0 : Int)))), S.ints IntKind.u64 (M6.dg (bif (bif NTold.okN (M6.val c + M6.val (M6.dg (1 : Nat))) then (0 : Int) else (5 : Int)) == (0 : Int) then zs b (M6.val (bif NTold.okN (M6.val c + M6.val (M6.dg (1 : Nat))) then M6.dg (M6.val c + M6.val (M6.dg (1 : Nat))) else [])) else (0 : Int)).natAbs)], D.s (S.sc (Value.int IntKind.i64 (bif NTold.okN (M6.val c + M6.val (M6.dg (1 : Nat))) then (0 : Int) else (5 : Int))))])))))) := (evalFn_J rfl nok _).trans (by kernel_rfl)
-- stuck: 0
end MMade
namespace MMade
noncomputable def sp (w : Int) (neg : Bool) (q : List Int) (rest : Bool) (half : Int) : Prop × List D := (M6.Nrm q ∧ q.length ≤ 8192,
  wE (fit (M6.val q + bif MMore.moreB w neg (decide (M6.val q % 2 = 1)) rest half then 1 else 0)) (zs neg (M6.val q + bif MMore.moreB w neg (decide (M6.val q % 2 = 1)) rest half then 1 else 0)))
theorem spec (w : Int) (neg : Bool) (q : List Int) (rest : Bool) (half : Int) (h : (sp w neg q rest half).1) : evalFn E Tryz.f209 cod [(pN .i64).put w, pB.put neg, (pI .u64).put q, pB.put rest, (pN .i64).put half] = some (sp w neg q rest half).2 := by
  obtain ⟨h1, h2⟩ := h
  have hb := bl6_len h1.dig h2
  refine (start w neg q rest half).trans ?_
  unfold sp
  dsimp only
  rw [gP ⟨h1.dig, by omega, by omega, by omega⟩, gP trivial, Nat.div_one, Bool.true_and]
  cases hm : MMore.moreB w neg (decide (M6.val q % 2 = 1)) rest half with
  | false =>
    have hf : fit (M6.val q + 0) = true := decide_eq_true (by rw [Nat.add_zero]; omega)
    rw [Bool.not_false, bT, gP ⟨h1, by omega⟩, cond_false, hf]
    rfl
  | true =>
    have o1 := len6_bl (n := 1) (k := 1) (bl_le.2 (by omega))
    rw [Bool.not_true, bF, gP ⟨by omega, by omega⟩, gP ⟨h1, M6.nrm_dg _, h2, by omega⟩, M6.val_dg, gP (nrm_bif (fun h => by rw [show NTold.okN _ = _ from len_fit] at h; exact fit_le h)), wE_told, show NTold.okN _ = _ from len_fit, cond_true]

noncomputable def orc : Orc := orc5 (pN .i64) pB (pI .u64) pB (pN .i64) sp
theorem fnok : FnOk Tryz.prog E 209 Tryz.f209 cod := fnOk ty_ok mixed (callsOk_of _ rfl (orcs_cons NBit.ok (orcs_cons MMore.ok (orcs_cons MTold.ok (orcs_cons NWord.ok (orcs_cons NAdd.ok orcs_nil))))) (ext_ok)) Tryz.func209 rfl rfl rfl
theorem ok : OrcOk Tryz.prog base.glob 209 orc := fnok.ok5 rfl spec
end MMade
end Go.Proofs.YtfebndgmmekmgaaGreatDoor.W

/- (gnomon/num.way).shr -/
namespace Go.Proofs.YtfebndgmmekmgaaGreatDoor.W
open Go Go.Proofs.YtfebndgmmekmgaaGreatDoor.AI Go.Proofs.YtfebndgmmekmgaaGreatDoor.M
namespace MShr
noncomputable def E : Env := { ({ base with C := callsOf [(60, MForm.orc), (101, NShr.orc), (100, NTrail.orc), (208, NBit.orc), (209, MMade.orc)] }) with nt := 61, own := [23, 58], keep := fun k => (tlook [] k).getD [], cut := tlook [(9, [0, 2, 4, 6, 8, 10]), (14, [0, 4, 6, 8, 10, 11])] }
noncomputable def cod : Code := (Go.Proofs.Tryz.f194.body).getD .skip
theorem nok : namesOk E cod = true := by kernel_rfl
noncomputable def J9 (x0 : Int) (x1 : Int) (b2 : Bool) (xs3 : List Int) (b4 : Bool) (xs5 : List Int) (b6 : Bool) : Option (List D) := ctO E Go.Proofs.Tryz.f194 cod 9 [(A.v (V.one (L.s (S.sc (Value.int IntKind.i64 x0)))), none), (A.v (V.one (L.s (S.sc (Value.int IntKind.i64 x1)))), none), (A.v (V.one (L.ptr (2 : Nat) (0 : Nat))), some { e := (26 : Nat), cont := Cont.cells [S.sc (Value.bool b2), S.ints IntKind.u64 xs3] }), (A.v (V.one (L.ptr (3 : Nat) (0 : Nat))), some { e := (26 : Nat), cont := Cont.cells [S.sc (Value.bool b4), S.sc (Value.slice none (0 : Nat) (0 : Nat))] }), (A.v (V.one (L.s (S.ints IntKind.u64 xs5))), none), (A.v (V.one (L.s (S.sc (Value.bool b6)))), none)]
noncomputable def J14 (x0 : Int) (b1 : Bool) (xs2 : List Int) (b3 : Bool) (xs4 : List Int) (b5 : Bool) (x6 : Int) : Option (List D) := ctO E Go.Proofs.Tryz.f194 cod 14 [(A.v (V.one (L.s (S.sc (Value.int IntKind.i64 x0)))), none), (A.v (V.one (L.ptr (1 : Nat) (0 : Nat))), some { e := (26 : Nat), cont := Cont.cells [S.sc (Value.bool b1), S.ints IntKind.u64 xs2] }), (A.v (V.one (L.ptr (2 : Nat) (0 : Nat))), some { e := (26 : Nat), cont := Cont.cells [S.sc (Value.bool b3), S.sc (Value.slice none (0 : Nat) (0 : Nat))] }), (A.v (V.one (L.s (S.ints IntKind.u64 xs4))), none), (A.v (V.one (L.s (S.sc (Value.bool b5)))), none), (A.v (V.one (L.s (S.sc (Value.int IntKind.i64 x6)))), none)]
theorem start (a : Int) (b1 : Bool) (b2 : List Int) (c : Int) : evalFn E Go.Proofs.Tryz.f194 cod [D.s (S.sc (Value.int IntKind.i64 a)), D.agg [S.sc (Value.bool b1), S.ints IntKind.u64 b2], D.s (S.sc (Value.int IntKind.i64 c))] = bcase (decide (c < (0 : Int))) (some [D.agg [S.sc (Value.bool false), S.sc (Value.slice none (0 : Nat) (0 : Nat))], D.s (S.sc (Value.int IntKind.i64 (1 : Int)))]) (gif ((b1, b2).snd.length ≤ (1099511627776 : Nat)) (bcase (!MForm.formI (b1, b2)) (some [D.agg [S.sc (Value.bool false), S.sc (Value.slice none (0 : Nat) (0 : Nat))], D.s (S.sc (Value.int IntKind.i64 (2 : Int)))]) (gif (M6.Nrm b2 ∧ b2.length ≤ (8192 : Nat) ∧ (0 : Int) ≤ c ∧ c < (4611686018427387904 : Int)) (bcase (decide ((0 : Int) < (↑b2.length : Int))) (gif (M6.Dig b2 ∧ b2.length ≤ (1099511627776 : Nat)) (MShr.J9 a c b1 b2 false (M6.dg (M6.val b2 / (2 : Nat) ^ c.toNat)) (decide ((↑(tz (M6.val b2)) : Int) < c)))) (MShr.J9 a c b1 b2 false (M6.dg (M6.val b2 / (2 : Nat) ^ c.toNat)) false))))) := (evalFn_J rfl nok _).trans (by kernel_rfl)
theorem J9_eq (x0 : Int) (x1 : Int) (b2 : Bool) (xs3 : List Int) (b4 : Bool) (xs5 : List Int) (b6 : Bool) : J9 x0 x1 b2 xs3 b4 xs5 b6 = gif (M6.Dig xs3 ∧ xs3.length ≤ (1099511627776 : Nat) ∧ (-9223372036854775808 : Int) ≤ IntKind.i64.wrap (x1 - (1 : Int)) ∧ IntKind.i64.wrap (x1 - (1 : Int)) < (9223372036854775808 : Int)) (bcase (decide ((0 : Int) ≤ IntKind.i64.wrap (x1 - (1 : Int))) && decide (M6.val xs3 / (2 : Nat) ^ (IntKind.i64.wrap (x1 - (1 : Int))).toNat % (2 : Nat) = (1 : Nat))) (gif (M6.Dig xs3 ∧ xs3.length ≤ (1099511627776 : Nat)) (bcase ((↑(tz (M6.val xs3)) : Int) == IntKind.i64.wrap (x1 - (1 : Int))) (MShr.J14 x0 b2 xs3 b4 xs5 b6 (0 : Int)) (MShr.J14 x0 b2 xs3 b4 xs5 b6 (1 : Int)))) (MShr.J14 x0 b2 xs3 b4 xs5 b6 (-1 : Int))) := (cutAt_J rfl nok 9 _).trans (by kernel_rfl)
theorem J14_eq (x0 : Int) (b1 : Bool) (xs2 : List Int) (b3 : Bool) (xs4 : List Int) (b5 : Bool) (x6 : Int) : J14 x0 b1 xs2 b3 xs4 b5 x6 = gif (M6.Nrm xs4 ∧ xs4.length ≤ (8192 : Nat)) (some [D.agg [S.sc (Value.bool (isNeg (bif fit (M6.val xs4 + bif MMore.moreB x0 b1 (decide (M6.val xs4 % (2 : Nat) = (1 : Nat))) b5 x6 then (1 : Nat) else (0 : Nat)) then zs b1 (M6.val xs4 + bif MMore.moreB x0 b1 (decide (M6.val xs4 % (2 : Nat) = (1 : Nat))) b5 x6 then (1 : Nat) else (0 : Nat)) else (0 : Int)))), S.ints IntKind.u64 (M6.dg (bif fit (M6.val xs4 + bif MMore.moreB x0 b1 (decide (M6.val xs4 % (2 : Nat) = (1 : Nat))) b5 x6 then (1 : Nat) else (0 : Nat)) then zs b1 (M6.val xs4 + bif MMore.moreB x0 b1 (decide (M6.val xs4 % (2 : Nat) = (1 : Nat))) b5 x6 then (1 : Nat) else (0 : Nat)) else (0 : Int)).natAbs)], D.s (S.sc (Value.int IntKind.i64 (bif fit (M6.val xs4 + bif MMore.moreB x0 b1 (decide (M6.val xs4 % (2 : Nat) = (1 : Nat))) b5 x6 then (1 : Nat) else (0 : Nat)) then (0 : Int) else (5 : Int))))]) := (cutAt_J rfl nok 14 _).trans (by kernel_rfl)
-- stuck: 0
end MShr
namespace MShr
/-- Is anything left below? And how does it stand to one half? -/
def restB (v : Nat) (n : Int) : Bool := decide (v ≠ 0) && decide ((tz v : Int) < n)
def halfV (v : Nat) (n : Int) : Int := bif decide (0 ≤ n - 1) && decide (v / 2 ^ (n - 1).toNat % 2 = 1) then (bif ((tz v : Int) == n - 1) then 0 else 1) else -1
/-- The size of the answer. -/
def shrN (w : Int) (neg : Bool) (v : Nat) (n : Int) : Nat := v / 2 ^ n.toNat + bif MMore.moreB w neg (decide (v / 2 ^ n.toNat % 2 = 1)) (restB v n) (halfV v n) then 1 else 0
noncomputable def sp (w : Int) (x : Bool × List Int) (n : Int) : Prop × List D := (Wok x ∧ 0 ≤ n ∧ n < 4611686018427387904, wE (fit (shrN w x.1 (M6.val x.2) n)) (zs x.1 (shrN w x.1 (M6.val x.2) n)))
theorem spec (w : Int) (x : Bool × List Int) (n : Int) (h : (sp w x n).1) : evalFn E Tryz.f194 cod [(pN .i64).put w, (pG (.pair sB (sI .u64))).put x, (pN .i64).put n] = some (sp w x n).2 := by
  obtain ⟨hx, h0, h1⟩ := h
  refine (start w x.1 x.2 n).trans ?_
  have l1 := hx.len
  have f1 := MForm.form_ok hx
  have b1 := hx.bl
  obtain ⟨p, a⟩ := x
  have n1 : M6.Nrm a := hx.1
  dsimp only at *
  unfold sp
  dsimp only
  have hq := len6_bl (n := M6.val a / 2 ^ n.toNat) (k := 8192) (Nat.le_trans (bl_mono (Nat.div_le_self _ _)) b1)
  have j14 : ∀ (r : Bool) (hf : Int), J14 w p a false (M6.dg (M6.val a / 2 ^ n.toNat)) r hf = some (wE (fit (M6.val a / 2 ^ n.toNat + bif MMore.moreB w p (decide (M6.val a / 2 ^ n.toNat % 2 = 1)) r hf then 1 else 0)) (zs p (M6.val a / 2 ^ n.toNat + bif MMore.moreB w p (decide (M6.val a / 2 ^ n.toNat % 2 = 1)) r hf then 1 else 0))) := by
    intro r hf
    rw [J14_eq, gP ⟨M6.nrm_dg _, hq⟩, M6.val_dg]
    rfl
  have wn : IntKind.i64.wrap (n - 1) = n - 1 := by rw [wrap_i64 (by omega) (by omega)]
  have j9 : ∀ r : Bool, J9 w n p a false (M6.dg (M6.val a / 2 ^ n.toNat)) r = some (wE (fit (M6.val a / 2 ^ n.toNat + bif MMore.moreB w p (decide (M6.val a / 2 ^ n.toNat % 2 = 1)) r (halfV (M6.val a) n) then 1 else 0)) (zs p (M6.val a / 2 ^ n.toNat + bif MMore.moreB w p (decide (M6.val a / 2 ^ n.toNat % 2 = 1)) r (halfV (M6.val a) n) then 1 else 0))) := by
    intro r
    rw [J9_eq, wn, gP ⟨n1.dig, by omega, by omega, by omega⟩, j14, j14, j14, gP ⟨n1.dig, by omega⟩]
    unfold halfV bcase
    cases (decide (0 ≤ n - 1) && decide (M6.val a / 2 ^ (n - 1).toNat % 2 = 1)) with
    | false => rfl
    | true => cases ((tz (M6.val a) : Int) == n - 1) <;> rfl
  have hz := M6.len_zero n1
  rw [bD_neg (by omega), gP (by omega), f1, Bool.not_true, bF, gP ⟨n1, l1, h0, h1⟩, j9, j9, gP ⟨n1.dig, by omega⟩]
  unfold shrN restB
  by_cases h : M6.val a = 0
  · rw [bD_neg (by have := hz.2 h; omega), decide_eq_false (show ¬ (M6.val a ≠ 0) by omega), Bool.false_and]
  · rw [bD_pos (by have : a.length ≠ 0 := fun hl => h (hz.1 hl); omega), decide_eq_true (show (M6.val a ≠ 0) by omega), Bool.true_and]

noncomputable def orc : Orc := orc3 (pN .i64) (pG (.pair sB (sI .u64))) (pN .i64) sp
theorem fnok : FnOk Tryz.prog E 194 Tryz.f194 cod := fnOk ty_ok mixed (callsOk_of _ rfl (orcs_cons MForm.ok (orcs_cons NShr.ok (orcs_cons NTrail.ok (orcs_cons NBit.ok (orcs_cons MMade.ok orcs_nil))))) (ext_ok)) Tryz.func194 rfl rfl rfl
theorem ok : OrcOk Tryz.prog base.glob 194 orc := fnok.ok3 rfl spec
end MShr
end Go.Proofs.YtfebndgmmekmgaaGreatDoor.W

/- gnomon/num.FloorShr -/
namespace Go.Proofs.YtfebndgmmekmgaaGreatDoor.W
open Go Go.Proofs.YtfebndgmmekmgaaGreatDoor.AI Go.Proofs.YtfebndgmmekmgaaGreatDoor.M
namespace MFloorShr
noncomputable def E : Env := { ({ base with C := callsOf [(194, MShr.orc)] }) with nt := 11, own := [8], keep := fun k => (tlook [] k).getD [], cut := tlook [] }
noncomputable def cod : Code := (Go.Proofs.Tryz.f173.body).getD .skip
theorem nok : namesOk E cod = true := by kernel_rfl
theorem start (a1 : Bool) (a2 : List Int) (b : Int) : evalFn E Go.Proofs.Tryz.f173 cod [D.agg [S.sc (Value.bool a1), S.ints IntKind.u64 a2], D.s (S.sc (Value.int IntKind.i64 b))] = gif (Wok (a1, a2) ∧ (0 : Int) ≤ b ∧ b < (4611686018427387904 : Int)) (some [D.agg [S.sc (Value.bool (isNeg (bif fit (MShr.shrN (0 : Int) (a1, a2).fst (M6.val (a1, a2).snd) b) then zs (a1, a2).fst (MShr.shrN (0 : Int) (a1, a2).fst (M6.val (a1, a2).snd) b) else (0 : Int)))), S.ints IntKind.u64 (M6.dg (bif fit (MShr.shrN (0 : Int) (a1, a2).fst (M6.val (a1, a2).snd) b) then zs (a1, a2).fst (MShr.shrN (0 : Int) (a1, a2).fst (M6.val (a1, a2).snd) b) else (0 : Int)).natAbs)], D.s (S.sc (Value.int IntKind.i64 (bif fit (MShr.shrN (0 : Int) (a1, a2).fst (M6.val (a1, a2).snd) b) then (0 : Int) else (5 : Int))))]) := (evalFn_J rfl nok _).trans (by kernel_rfl)
-- stuck: 0
end MFloorShr
namespace MFloorShr
theorem rest_iff {v : Nat} {n : Int} (h : 0 ≤ n) : MShr.restB v n = decide (v % 2 ^ n.toNat ≠ 0) := by
  unfold MShr.restB
  by_cases hv : v = 0
  · subst hv
    rw [decide_eq_false (by omega), Bool.false_and, Nat.zero_mod]
    rfl
  · rw [decide_eq_true hv, Bool.true_and]
    have hs := tz_spec v hv
    obtain ⟨k, rfl⟩ := Int.eq_ofNat_of_zero_le h
    rw [Int.toNat_natCast]
    generalize tz v = j at *
    by_cases hk : j < k
    · have : v % 2 ^ k ≠ 0 := by
        intro hm
        have e1 : v = 2 ^ k * (v / 2 ^ k) := by have := Nat.div_add_mod v (2 ^ k); omega
        have e2 : v / 2 ^ j = 2 * (2 ^ (k - j - 1) * (v / 2 ^ k)) := by
          have hp : 2 ^ k = 2 ^ j * (2 * 2 ^ (k - j - 1)) := by
            rw [← Nat.pow_succ', ← Nat.pow_add]
            congr 1
            omega
          generalize v / 2 ^ k = t at e1 ⊢
          rw [e1, hp, Nat.mul_assoc, Nat.mul_div_cancel_left _ (Nat.pow_pos (by decide)), Nat.mul_assoc]
        omega
      rw [decide_eq_true (by omega), decide_eq_true this]
    · have : v % 2 ^ k = 0 := by
        have hp : 2 ^ j = 2 ^ k * 2 ^ (j - k) := by rw [← Nat.pow_add]; congr 1; omega
        have e1 : v = 2 ^ j * (v / 2 ^ j) := by have := Nat.div_add_mod v (2 ^ j); omega
        rw [e1, hp, Nat.mul_assoc, Nat.mul_mod_right]
      rw [decide_eq_false (by omega), decide_eq_false (by omega)]
/-- Down. -/
theorem down {p : Bool} {v : Nat} {n : Int} (h : 0 ≤ n) : zs p (MShr.shrN 0 p v n) = zs p v / ((2 ^ n.toNat : Nat) : Int) := by
  unfold MShr.shrN MMore.moreB
  rw [rest_iff h, show ((0 : Int) == 0) = true from rfl, cond_true]
  have hp : 0 < 2 ^ n.toNat := Nat.pow_pos (by omega)
  have hd := Nat.div_add_mod v (2 ^ n.toNat)
  have hm := Nat.mod_lt v hp
  generalize 2 ^ n.toNat = q at *
  cases p with
  | false =>
    rw [Bool.false_and, cond_false, Nat.add_zero]
    show ((v / q : Nat) : Int) = (v : Int) / (q : Int)
    rw [Int.natCast_ediv]
  | true =>
    rw [Bool.true_and]
    show -(((v / q + bif decide (v % q ≠ 0) then 1 else 0 : Nat)) : Int) = -(v : Int) / (q : Int)
    by_cases hz : v % q = 0
    · rw [decide_eq_false (by omega), cond_false, Nat.add_zero]
      have e : -(v : Int) = (q : Int) * (-((v / q : Nat) : Int)) := by
        rw [Int.mul_neg, ← Int.natCast_mul]
        omega
      rw [e, Int.mul_ediv_cancel_left _ (by omega)]
    · rw [decide_eq_true hz, cond_true]
      have e : -(v : Int) = ((q - v % q : Nat) : Int) + (q : Int) * (-((v / q + 1 : Nat) : Int)) := by
        rw [Int.mul_neg, ← Int.natCast_mul, Nat.mul_add]
        omega
      rw [e, Int.add_mul_ediv_left _ _ (by omega), Int.ediv_eq_zero_of_lt (by omega) (by omega), Int.zero_add]
theorem small {p : Bool} {v : Nat} {n : Int} (h : 0 ≤ n) (hb : bl v ≤ 524288) : fit (MShr.shrN 0 p v n) = true := by
  refine decide_eq_true (Nat.le_trans (bl_mono ?_) hb)
  unfold MShr.shrN MMore.moreB
  rw [rest_iff h, show ((0 : Int) == 0) = true from rfl, cond_true]
  have hp : 0 < 2 ^ n.toNat := Nat.pow_pos (by omega)
  by_cases hz : v % 2 ^ n.toNat = 0
  · rw [decide_eq_false (by omega), Bool.and_false, cond_false]
    exact Nat.div_le_self _ _
  · have h2 : 2 ≤ 2 ^ n.toNat := by
      refine Nat.le_of_not_lt fun hc => hz ?_
      rw [show 2 ^ n.toNat = 1 from by omega, Nat.mod_one]
    have : v / 2 ^ n.toNat ≤ v / 2 := Nat.div_le_div_left h2 (by omega)
    have hv : v ≠ 0 := fun h => hz (by rw [h, Nat.zero_mod])
    have : (bif p && decide (v % 2 ^ n.toNat ≠ 0) then (1 : Nat) else 0) ≤ 1 := by cases p <;> cases decide (v % 2 ^ n.toNat ≠ 0) <;> decide
    omega
noncomputable def sp (x : Bool × List Int) (n : Int) : Prop × List D := (Wok x ∧ 0 ≤ n ∧ n < 4611686018427387904, [wD (wv x / ((2 ^ n.toNat : Nat) : Int)), .s (.sc (.int .i64 0))])
theorem spec (x : Bool × List Int) (n : Int) (h : (sp x n).1) : evalFn E Tryz.f173 cod [(pG (.pair sB (sI .u64))).put x, (pN .i64).put n] = some (sp x n).2 := by
  have h' := h
  obtain ⟨hx, h0, h1⟩ := h
  refine (start x.1 x.2 n).trans ((gP h').trans ?_)
  unfold sp
  dsimp only
  rw [small h0 hx.bl]
  show some (wE true _) = _
  rw [down h0]
  rfl

noncomputable def orc : Orc := orc2 (pG (.pair sB (sI .u64))) (pN .i64) sp
theorem fnok : FnOk Tryz.prog E 173 Tryz.f173 cod := fnOk ty_ok mixed (callsOk_of _ rfl (orcs_cons MShr.ok orcs_nil) (ext_ok)) Tryz.func173 rfl rfl rfl
theorem ok : OrcOk Tryz.prog base.glob 173 orc := fnok.ok2 rfl spec
end MFloorShr
end Go.Proofs.YtfebndgmmekmgaaGreatDoor.W

/- gnomon/dyadic.cut -/
namespace Go.Proofs.YtfebndgmmekmgaaGreatDoor.W
open Go Go.Proofs.YtfebndgmmekmgaaGreatDoor.AI Go.Proofs.YtfebndgmmekmgaaGreatDoor.M
namespace DCut
noncomputable def E : Env := { ({ base with C := callsOf [(173, MFloorShr.orc)] }) with nt := 22, own := [], keep := fun k => (tlook [] k).getD [], cut := tlook [] }
noncomputable def cod : Code := (Go.Proofs.Tryz.f128.body).getD .skip
theorem nok : namesOk E cod = true := by kernel_rfl
theorem start (a1 : Bool) (a2 : List Int) (b : Int) (c : Bool) : evalFn E Go.Proofs.Tryz.f128 cod [D.agg [S.sc (Value.bool a1), S.ints IntKind.u64 a2], D.s (S.sc (Value.int IntKind.i64 b)), D.s (S.sc (Value.bool c))] = bcase c none (gif (Wok (a1, a2) ∧ (0 : Int) ≤ b ∧ b < (4611686018427387904 : Int)) (some [D.agg [S.sc (Value.bool (isNeg (wv (a1, a2) / (↑((2 : Nat) ^ b.toNat) : Int)))), S.ints IntKind.u64 (M6.dg (wv (a1, a2) / (↑((2 : Nat) ^ b.toNat) : Int)).natAbs)]])) := (evalFn_J rfl nok _).trans (by kernel_rfl)
-- stuck: 0
end DCut
namespace DCut
noncomputable def sp (x : Bool × List Int) (n : Int) (up : Bool) : Prop × List D := (Wok x ∧ (0 ≤ n ∧ n < 4611686018427387904) ∧ up = false, [wD (wv x / ((2 ^ n.toNat : Nat) : Int))])
theorem spec (x : Bool × List Int) (n : Int) (up : Bool) (h : (sp x n up).1) : evalFn E Tryz.f128 cod [(pG (.pair sB (sI .u64))).put x, (pN .i64).put n, pB.put up] = some (sp x n up).2 := by
  obtain ⟨h1, h2, rfl⟩ := h
  refine (start x.1 x.2 n false).trans ?_
  rw [bF, gP ⟨h1, h2⟩]
  rfl

noncomputable def orc : Orc := orc3 (pG (.pair sB (sI .u64))) (pN .i64) pB sp
theorem fnok : FnOk Tryz.prog E 128 Tryz.f128 cod := fnOk ty_ok mixed (callsOk_of _ rfl (orcs_cons MFloorShr.ok orcs_nil) (ext_ok)) Tryz.func128 rfl rfl rfl
theorem ok : OrcOk Tryz.prog base.glob 128 orc := fnok.ok3 rfl spec
end DCut
end Go.Proofs.YtfebndgmmekmgaaGreatDoor.W

/- gnomon/dyadic.grid -/
namespace Go.Proofs.YtfebndgmmekmgaaGreatDoor.W
open Go Go.Proofs.YtfebndgmmekmgaaGreatDoor.AI Go.Proofs.YtfebndgmmekmgaaGreatDoor.M
namespace DGrid
noncomputable def E : Env := { ({ base with C := callsOf [(53, DForm.orc), (54, DNought.orc), (55, DTwin.orc), (102, NBits.orc), (128, DCut.orc), (57, DMake.orc)] }) with nt := 49, own := [46], keep := fun k => (tlook [] k).getD [], cut := tlook [(5, [1, 2, 3, 6]), (8, [1, 2, 3, 6, 8])] }
noncomputable def cod : Code := (Go.Proofs.Tryz.f76.body).getD .skip
theorem nok : namesOk E cod = true := by kernel_rfl
noncomputable def J5 (x0 : Int) (b1 : Bool) (b2 : Bool) (xs3 : List Int) (x4 : Int) (b5 : Bool) (x6 : Int) : Option (List D) := ctO E Go.Proofs.Tryz.f76 cod 5 [(A.v (V.one (L.s (S.sc (Value.int IntKind.i64 x0)))), none), (A.v (V.one (L.s (S.sc (Value.bool b1)))), none), (A.v (V.one (L.ptr (2 : Nat) (0 : Nat))), some { e := (28 : Nat), cont := Cont.cells [S.sc (Value.bool b2), S.ints IntKind.u64 xs3, S.sc (Value.int IntKind.i64 x4)] }), (A.v (V.one (L.ptr (3 : Nat) (0 : Nat))), some { e := (28 : Nat), cont := Cont.cells [S.sc (Value.bool b5), S.sc (Value.slice none (0 : Nat) (0 : Nat)), S.sc (Value.int IntKind.i64 x6)] })]
noncomputable def J8 (x0 : Int) (b1 : Bool) (b2 : Bool) (xs3 : List Int) (x4 : Int) (b5 : Bool) (x6 : Int) (x7 : Int) : Option (List D) := ctO E Go.Proofs.Tryz.f76 cod 8 [(A.v (V.one (L.s (S.sc (Value.int IntKind.i64 x0)))), none), (A.v (V.one (L.s (S.sc (Value.bool b1)))), none), (A.v (V.one (L.ptr (2 : Nat) (0 : Nat))), some { e := (28 : Nat), cont := Cont.cells [S.sc (Value.bool b2), S.ints IntKind.u64 xs3, S.sc (Value.int IntKind.i64 x4)] }), (A.v (V.one (L.ptr (3 : Nat) (0 : Nat))), some { e := (28 : Nat), cont := Cont.cells [S.sc (Value.bool b5), S.sc (Value.slice none (0 : Nat) (0 : Nat)), S.sc (Value.int IntKind.i64 x6)] }), (A.v (V.one (L.s (S.sc (Value.int IntKind.i64 x7)))), none)]
theorem start (a1 : Bool) (a2 : List Int) (a3 : Int) (b : Int) (c : Bool) : evalFn E Go.Proofs.Tryz.f76 cod [D.agg [S.sc (Value.bool a1), S.ints IntKind.u64 a2, S.sc (Value.int IntKind.i64 a3)], D.s (S.sc (Value.int IntKind.i64 b)), D.s (S.sc (Value.bool c))] = gif (DyOk (a1, a2, a3)) (gif True (bcase ((↑(a2, a3).fst.length : Int) == (0 : Int)) (gif ((a2, a3).fst.length ≤ (1099511627776 : Nat)) (some [D.agg [S.sc (Value.bool (a1, a2, a3).fst), S.ints IntKind.u64 (a2, a3).fst, S.sc (Value.int IntKind.i64 (a2, a3).snd)], D.s (S.sc (Value.int IntKind.i64 (0 : Int)))])) (bcase (decide (b ≤ a3)) (gif ((a2, a3).fst.length ≤ (1099511627776 : Nat)) (some [D.agg [S.sc (Value.bool (a1, a2, a3).fst), S.ints IntKind.u64 (a2, a3).fst, S.sc (Value.int IntKind.i64 (a2, a3).snd)], D.s (S.sc (Value.int IntKind.i64 (0 : Int)))])) (DGrid.J5 b c a1 a2 a3 false (0 : Int))))) := (evalFn_J rfl nok _).trans (by kernel_rfl)
theorem J5_eq (x0 : Int) (b1 : Bool) (b2 : Bool) (xs3 : List Int) (x4 : Int) (b5 : Bool) (x6 : Int) : J5 x0 b1 b2 xs3 x4 b5 x6 = gif (M6.Dig xs3 ∧ xs3.length ≤ (1099511627776 : Nat)) (bcase (decide (x0 < IntKind.i64.wrap (x4 + IntKind.i64.wrap ((↑(bl (M6.val xs3)) : Int) + (1 : Int))))) (DGrid.J8 x0 b1 b2 xs3 x4 b5 x6 (IntKind.i64.wrap (x0 - x4))) (DGrid.J8 x0 b1 b2 xs3 x4 b5 x6 (IntKind.i64.wrap ((↑(bl (M6.val xs3)) : Int) + (1 : Int))))) := (cutAt_J rfl nok 5 _).trans (by kernel_rfl)
theorem J8_eq (x0 : Int) (b1 : Bool) (b2 : Bool) (xs3 : List Int) (x4 : Int) (b5 : Bool) (x6 : Int) (x7 : Int) : J8 x0 b1 b2 xs3 x4 b5 x6 x7 = gif (Wok (b2, xs3) ∧ ((0 : Int) ≤ x7 ∧ x7 < (4611686018427387904 : Int)) ∧ b1 = false) (gif (Wok (isNeg (wv (b2, xs3) / (↑((2 : Nat) ^ x7.toNat) : Int)), M6.dg (wv (b2, xs3) / (↑((2 : Nat) ^ x7.toNat) : Int)).natAbs) ∧ (-9223372036854775808 : Int) ≤ x0 ∧ x0 < (9223372036854775808 : Int)) (some [D.agg [S.sc (Value.bool (isNeg (bif inD (wv (isNeg (wv (b2, xs3) / (↑((2 : Nat) ^ x7.toNat) : Int)), M6.dg (wv (b2, xs3) / (↑((2 : Nat) ^ x7.toNat) : Int)).natAbs)) x0 then nrmD (wv (isNeg (wv (b2, xs3) / (↑((2 : Nat) ^ x7.toNat) : Int)), M6.dg (wv (b2, xs3) / (↑((2 : Nat) ^ x7.toNat) : Int)).natAbs)) x0 else ((0 : Int), (0 : Int))).fst)), S.ints IntKind.u64 (M6.dg (bif inD (wv (isNeg (wv (b2, xs3) / (↑((2 : Nat) ^ x7.toNat) : Int)), M6.dg (wv (b2, xs3) / (↑((2 : Nat) ^ x7.toNat) : Int)).natAbs)) x0 then nrmD (wv (isNeg (wv (b2, xs3) / (↑((2 : Nat) ^ x7.toNat) : Int)), M6.dg (wv (b2, xs3) / (↑((2 : Nat) ^ x7.toNat) : Int)).natAbs)) x0 else ((0 : Int), (0 : Int))).fst.natAbs), S.sc (Value.int IntKind.i64 (bif inD (wv (isNeg (wv (b2, xs3) / (↑((2 : Nat) ^ x7.toNat) : Int)), M6.dg (wv (b2, xs3) / (↑((2 : Nat) ^ x7.toNat) : Int)).natAbs)) x0 then nrmD (wv (isNeg (wv (b2, xs3) / (↑((2 : Nat) ^ x7.toNat) : Int)), M6.dg (wv (b2, xs3) / (↑((2 : Nat) ^ x7.toNat) : Int)).natAbs)) x0 else ((0 : Int), (0 : Int))).snd)], D.s (S.sc (Value.int IntKind.i64 (bif inD (wv (isNeg (wv (b2, xs3) / (↑((2 : Nat) ^ x7.toNat) : Int)), M6.dg (wv (b2, xs3) / (↑((2 : Nat) ^ x7.toNat) : Int)).natAbs)) x0 then (0 : Int) else (5 : Int))))])) := (cutAt_J rfl nok 8 _).trans (by kernel_rfl)
-- stuck: 0
end DGrid
namespace DGrid
/-- The greatest multiple of 2^b that is at most p. -/
def gridD (p : Int × Int) (b : Int) : Int × Int := if p.1 = 0 ∨ b ≤ p.2 then p else nrmD (p.1 / ((2 ^ (b - p.2).toNat : Nat) : Int)) b
def gridOk (p : Int × Int) (b : Int) : Bool := decide (p.1 = 0 ∨ b ≤ p.2) || inD (p.1 / ((2 ^ (b - p.2).toNat : Nat) : Int)) b
noncomputable def sp (x : Bool × List Int × Int) (b : Int) (up : Bool) : Prop × List D := (DyOk x ∧ (-4611686018427387904 ≤ b ∧ b < 4611686018427387904) ∧ up = false, dE (gridOk (dv x) b) (gridD (dv x) b))
theorem spec (x : Bool × List Int × Int) (k : Int) (up : Bool) (h : (sp x k up).1) : evalFn E Tryz.f76 cod [(pG (.pair sB (.pair (sI .u64) (sN .i64)))).put x, (pN .i64).put k, pB.put up] = some (sp x k up).2 := by
  obtain ⟨h, hk, rfl⟩ := h
  refine (start x.1 x.2.1 x.2.2 k false).trans ?_
  have hl := h.len
  have hd := h.dD
  have hr := h.2.1
  have hb := h.wok.bl
  have hw := h.wok
  have hn := h.nrm
  obtain ⟨b, a, e⟩ := x
  dsimp only at *
  unfold sp
  dsimp only
  have hz := M6.len_zero hn
  have ha := wv_abs (b, a)
  dsimp only at ha hz
  rw [gP h, gP trivial]
  have same : ((dv (b, a, e)).1 = 0 ∨ k ≤ (dv (b, a, e)).2) → dE (gridOk (dv (b, a, e)) k) (gridD (dv (b, a, e)) k) = [D.agg [.sc (.bool b), .ints .u64 a, .sc (.int .i64 e)], .s (.sc (.int .i64 0))] := by
    intro hc
    unfold gridOk gridD
    rw [decide_eq_true hc, Bool.true_or, if_pos hc]
    show [M.dD (dv (b, a, e)), _] = _
    rw [hd]
    rfl
  by_cases h0 : a.length = 0
  · rw [bE_pos (by omega), gP (by omega), same (.inl (by have := hz.1 h0; show wv (b, a) = 0; omega))]
  · rw [bE_neg (by omega)]
    by_cases h1 : k ≤ e
    · rw [bD_pos h1, gP (by omega), same (.inr h1)]
    · have hz0 : wv (b, a) ≠ 0 := by have : M6.val a ≠ 0 := fun h => h0 (hz.2 h); omega
      have hno : ¬ ((dv (b, a, e)).1 = 0 ∨ k ≤ (dv (b, a, e)).2) := by
        rintro (hc | hc)
        · exact hz0 hc
        · exact h1 hc
      have j8 : ∀ n : Int, 0 ≤ n → n < 4611686018427387904 → wv (b, a) / ((2 ^ n.toNat : Nat) : Int) = wv (b, a) / ((2 ^ (k - e).toNat : Nat) : Int) → J8 k false b a e false 0 n = some (dE (gridOk (dv (b, a, e)) k) (gridD (dv (b, a, e)) k)) := by
        intro n hn0 hn1 he
        have hq : bl (wv (b, a) / ((2 ^ (k - e).toNat : Nat) : Int)).natAbs ≤ 524288 := Nat.le_trans (bl_mono (div_abs (Nat.pow_pos (by decide)))) (by rw [ha]; exact hb)
        rw [J8_eq, gP ⟨hw, ⟨hn0, hn1⟩, rfl⟩, he, gP ⟨wok_wD hq, by omega, by omega⟩, wv_wD]
        unfold gridOk gridD
        rw [decide_eq_false hno, Bool.false_or, if_neg hno]
        rfl
      rw [bD_neg h1, J5_eq, gP ⟨hn.dig, by omega⟩, wrap_i64 (n := ((bl (M6.val a) : Nat) : Int) + 1) (by omega) (by omega), wrap_i64 (n := e + (((bl (M6.val a) : Nat) : Int) + 1)) (by omega) (by omega), wrap_i64 (n := k - e) (by omega) (by omega)]
      by_cases h2 : k < e + (((bl (M6.val a) : Nat) : Int) + 1)
      · rw [bD_pos h2, j8 _ (by omega) (by omega) rfl]
      · rw [bD_neg h2, j8 _ (by omega) (by omega) (far (by rw [ha]; omega) (by rw [ha]; omega))]

noncomputable def orc : Orc := orc3 (pG (.pair sB (.pair (sI .u64) (sN .i64)))) (pN .i64) pB sp
theorem fnok : FnOk Tryz.prog E 76 Tryz.f76 cod := fnOk ty_ok mixed (callsOk_of _ rfl (orcs_cons DForm.ok (orcs_cons DNought.ok (orcs_cons DTwin.ok (orcs_cons NBits.ok (orcs_cons DCut.ok (orcs_cons DMake.ok orcs_nil)))))) (ext_ok)) Tryz.func76 rfl rfl rfl
theorem ok : OrcOk Tryz.prog base.glob 76 orc := fnok.ok3 rfl spec
end DGrid
end Go.Proofs.YtfebndgmmekmgaaGreatDoor.W

/- gnomon/num.Sign -/
namespace Go.Proofs.YtfebndgmmekmgaaGreatDoor.W
open Go Go.Proofs.YtfebndgmmekmgaaGreatDoor.AI Go.Proofs.YtfebndgmmekmgaaGreatDoor.M
namespace MSign
noncomputable def E : Env := { ({ base with C := callsOf [(102, NBits.orc)] }) with nt := 11, own := [], keep := fun k => (tlook [] k).getD [], cut := tlook [] }
noncomputable def cod : Code := (Go.Proofs.Tryz.f58.body).getD .skip
theorem nok : namesOk E cod = true := by kernel_rfl
theorem start (a1 : Bool) (a2 : List Int) : evalFn E Go.Proofs.Tryz.f58 cod [D.agg [S.sc (Value.bool a1), S.ints IntKind.u64 a2]] = gif (M6.Dig a2 ∧ a2.length ≤ (1099511627776 : Nat)) (bcase ((↑(bl (M6.val a2)) : Int) == (0 : Int)) (some [D.s (S.sc (Value.int IntKind.i64 (0 : Int)))]) (bcase a1 (some [D.s (S.sc (Value.int IntKind.i64 (-1 : Int)))]) (some [D.s (S.sc (Value.int IntKind.i64 (1 : Int)))]))) := (evalFn_J rfl nok _).trans (by kernel_rfl)
-- stuck: 0
end MSign
namespace MSign
noncomputable def sp (x : Bool × List Int) : Prop × List D := (Wok x, [.s (.sc (.int .i64 (cmpZ (wv x) 0)))])
theorem spec (x : Bool × List Int) (h : (sp x).1) : evalFn E Tryz.f58 cod [(pG (.pair sB (sI .u64))).put x] = some (sp x).2 := by
  refine (start x.1 x.2).trans ?_
  have h : Wok x := h
  have hl := h.len
  obtain ⟨h1, h2, h3⟩ := h
  unfold sp
  simp only
  rw [gP ⟨h1.dig, by omega⟩]
  by_cases hz : M6.val x.2 = 0
  · rw [hz, bl_zero, bE_pos (a := ((0 : Nat) : Int)) (b := 0) rfl]
    cases hx : x.1 with
    | true => exact (h2 hx hz).elim
    | false => rw [wv_pos hx, hz]; rfl
  · have := bl_pos hz
    rw [bE_neg (by omega)]
    cases hx : x.1 with
    | true => rw [bT, wv_neg hx]; unfold cmpZ; rw [if_pos (by omega)]
    | false => rw [bF, wv_pos hx]; unfold cmpZ; rw [if_neg (by omega), if_pos (by omega)]

noncomputable def orc : Orc := orc1 (pG (.pair sB (sI .u64))) sp
theorem fnok : FnOk Tryz.prog E 58 Tryz.f58 cod := fnOk ty_ok mixed (callsOk_of _ rfl (orcs_cons NBits.ok orcs_nil) (ext_ok)) Tryz.func58 rfl rfl rfl
theorem ok : OrcOk Tryz.prog base.glob 58 orc := fnok.ok1 rfl spec
end MSign
end Go.Proofs.YtfebndgmmekmgaaGreatDoor.W

/- gnomon/dyadic.top -/
namespace Go.Proofs.YtfebndgmmekmgaaGreatDoor.W
open Go Go.Proofs.YtfebndgmmekmgaaGreatDoor.AI Go.Proofs.YtfebndgmmekmgaaGreatDoor.M
namespace DTop
noncomputable def E : Env := { ({ base with C := callsOf [(102, NBits.orc)] }) with nt := 11, own := [], keep := fun k => (tlook [] k).getD [], cut := tlook [] }
noncomputable def cod : Code := (Go.Proofs.Tryz.f103.body).getD .skip
theorem nok : namesOk E cod = true := by kernel_rfl
theorem start (a1 : Bool) (a2 : List Int) (a3 : Int) : evalFn E Go.Proofs.Tryz.f103 cod [D.agg [S.sc (Value.bool a1), S.ints IntKind.u64 a2, S.sc (Value.int IntKind.i64 a3)]] = gif (M6.Dig a2 ∧ a2.length ≤ (1099511627776 : Nat)) (some [D.s (S.sc (Value.int IntKind.i64 (IntKind.i64.wrap (IntKind.i64.wrap (a3 + (↑(bl (M6.val a2)) : Int)) - (1 : Int)))))]) := (evalFn_J rfl nok _).trans (by kernel_rfl)
-- stuck: 0
end DTop
namespace DTop
noncomputable def sp (x : Bool × List Int × Int) : Prop × List D := (DyOk x, [.s (.sc (.int .i64 (x.2.2 + (bl (M6.val x.2.1) : Nat) - 1)))])
theorem spec (x : Bool × List Int × Int) (h : (sp x).1) : evalFn E Tryz.f103 cod [(pG (.pair sB (.pair (sI .u64) (sN .i64)))).put x] = some (sp x).2 := by
  have h : DyOk x := h
  have hl := h.len
  have hb := h.wok.bl
  refine (start x.1 x.2.1 x.2.2).trans ?_
  have he := h.2.1
  dsimp only at hb
  rw [gP ⟨h.nrm.dig, by omega⟩, wrap_i64 (n := x.2.2 + _) (by omega) (by omega), wrap_i64 (by omega) (by omega)]
  rfl

noncomputable def orc : Orc := orc1 (pG (.pair sB (.pair (sI .u64) (sN .i64)))) sp
theorem fnok : FnOk Tryz.prog E 103 Tryz.f103 cod := fnOk ty_ok mixed (callsOk_of _ rfl (orcs_cons NBits.ok orcs_nil) (ext_ok)) Tryz.func103 rfl rfl rfl
theorem ok : OrcOk Tryz.prog base.glob 103 orc := fnok.ok1 rfl spec
end DTop
end Go.Proofs.YtfebndgmmekmgaaGreatDoor.W

/- gnomon/dyadic.size -/
namespace Go.Proofs.YtfebndgmmekmgaaGreatDoor.W
open Go Go.Proofs.YtfebndgmmekmgaaGreatDoor.AI Go.Proofs.YtfebndgmmekmgaaGreatDoor.M
namespace DSize
noncomputable def E : Env := { ({ base with C := callsOf [(103, DTop.orc), (61, NShl.orc), (104, NCmp.orc)] }) with nt := 54, own := [53], keep := fun k => (tlook [] k).getD [], cut := tlook [] }
noncomputable def cod : Code := (Go.Proofs.Tryz.f59.body).getD .skip
theorem nok : namesOk E cod = true := by kernel_rfl
theorem start (a1 : Bool) (a2 : List Int) (a3 : Int) (b1 : Bool) (b2 : List Int) (b3 : Int) : evalFn E Go.Proofs.Tryz.f59 cod [D.agg [S.sc (Value.bool a1), S.ints IntKind.u64 a2, S.sc (Value.int IntKind.i64 a3)], D.agg [S.sc (Value.bool b1), S.ints IntKind.u64 b2, S.sc (Value.int IntKind.i64 b3)]] = gif (DyOk (a1, a2, a3)) (gif (DyOk (b1, b2, b3)) (bcase (decide ((a2, a3).snd + (↑(bl (M6.val (a2, a3).fst)) : Int) - (1 : Int) < (b2, b3).snd + (↑(bl (M6.val (b2, b3).fst)) : Int) - (1 : Int))) (some [D.s (S.sc (Value.int IntKind.i64 (-1 : Int)))]) (bcase (decide ((b2, b3).snd + (↑(bl (M6.val (b2, b3).fst)) : Int) - (1 : Int) < (a2, a3).snd + (↑(bl (M6.val (a2, a3).fst)) : Int) - (1 : Int))) (some [D.s (S.sc (Value.int IntKind.i64 (1 : Int)))]) (gif (M6.Nrm a2 ∧ a2.length ≤ (8192 : Nat) ∧ (0 : Int) ≤ IntKind.i64.wrap (a3 - if b3 < a3 then b3 else a3) ∧ IntKind.i64.wrap (a3 - if b3 < a3 then b3 else a3) < (4611686018427387904 : Int)) (gif (M6.Nrm b2 ∧ b2.length ≤ (8192 : Nat) ∧ (0 : Int) ≤ IntKind.i64.wrap (b3 - if b3 < a3 then b3 else a3) ∧ IntKind.i64.wrap (b3 - if b3 < a3 then b3 else a3) < (4611686018427387904 : Int)) (gif (M6.Dig (bif NShl.shlOk (M6.val a2) (IntKind.i64.wrap (a3 - if b3 < a3 then b3 else a3)).toNat then M6.dg (M6.val a2 * (2 : Nat) ^ (IntKind.i64.wrap (a3 - if b3 < a3 then b3 else a3)).toNat) else []) ∧ M6.Dig (bif NShl.shlOk (M6.val b2) (IntKind.i64.wrap (b3 - if b3 < a3 then b3 else a3)).toNat then M6.dg (M6.val b2 * (2 : Nat) ^ (IntKind.i64.wrap (b3 - if b3 < a3 then b3 else a3)).toNat) else []) ∧ (bif NShl.shlOk (M6.val a2) (IntKind.i64.wrap (a3 - if b3 < a3 then b3 else a3)).toNat then M6.dg (M6.val a2 * (2 : Nat) ^ (IntKind.i64.wrap (a3 - if b3 < a3 then b3 else a3)).toNat) else []).length ≤ (1099511627776 : Nat) ∧ (bif NShl.shlOk (M6.val b2) (IntKind.i64.wrap (b3 - if b3 < a3 then b3 else a3)).toNat then M6.dg (M6.val b2 * (2 : Nat) ^ (IntKind.i64.wrap (b3 - if b3 < a3 then b3 else a3)).toNat) else []).length ≤ (1099511627776 : Nat)) (some [D.s (S.sc (Value.int IntKind.i64 (cmpN (M6.val (bif NShl.shlOk (M6.val a2) (IntKind.i64.wrap (a3 - if b3 < a3 then b3 else a3)).toNat then M6.dg (M6.val a2 * (2 : Nat) ^ (IntKind.i64.wrap (a3 - if b3 < a3 then b3 else a3)).toNat) else [])) (M6.val (bif NShl.shlOk (M6.val b2) (IntKind.i64.wrap (b3 - if b3 < a3 then b3 else a3)).toNat then M6.dg (M6.val b2 * (2 : Nat) ^ (IntKind.i64.wrap (b3 - if b3 < a3 then b3 else a3)).toNat) else [])))))]))))))) := (evalFn_J rfl nok _).trans (by kernel_rfl)
-- stuck: 0
end DSize
namespace DSize
noncomputable def sp (x y : Bool × List Int × Int) : Prop × List D := ((DyOk x ∧ DyOk y) ∧ x.2.1.length ≠ 0 ∧ y.2.1.length ≠ 0, [.s (.sc (.int .i64 (cmpN (DAdd.addX (dv x) (dv y)).natAbs (DAdd.addY (dv x) (dv y)).natAbs)))])
theorem spec (x y : Bool × List Int × Int) (h : (sp x y).1) : evalFn E Tryz.f59 cod [(pG (.pair sB (.pair (sI .u64) (sN .i64)))).put x, (pG (.pair sB (.pair (sI .u64) (sN .i64)))).put y] = some (sp x y).2 := by
  obtain ⟨⟨hx, hy⟩, h0, g0⟩ := h
  refine (start x.1 x.2.1 x.2.2 y.1 y.2.1 y.2.2).trans ?_
  have lx := hx.len
  have ly := hy.len
  have nx := hx.nrm
  have ny := hy.nrm
  have bx := hx.wok.bl
  have by' := hy.wok.bl
  have rx := hx.2.1
  have ry := hy.2.1
  obtain ⟨b, a, e⟩ := x
  obtain ⟨c, d, f⟩ := y
  dsimp only at *
  unfold sp
  dsimp only
  have ax := wv_abs (b, a)
  have ay := wv_abs (c, d)
  dsimp only at ax ay
  have vx : M6.val a ≠ 0 := fun h => h0 ((M6.len_zero nx).2 h)
  have vy : M6.val d ≠ 0 := fun h => g0 ((M6.len_zero ny).2 h)
  rw [gP hx, gP hy]
  have i1 : DAdd.addE (dv (b, a, e)) (dv (c, d, f)) ≤ e ∧ DAdd.addE (dv (b, a, e)) (dv (c, d, f)) ≤ f ∧ -1048576 ≤ DAdd.addE (dv (b, a, e)) (dv (c, d, f)) ∧ (DAdd.addE (dv (b, a, e)) (dv (c, d, f)) = e ∨ DAdd.addE (dv (b, a, e)) (dv (c, d, f)) = f) := by
    unfold DAdd.addE dv
    dsimp only
    split <;> omega
  have u1 : IntKind.i64.wrap (e - DAdd.addE (dv (b, a, e)) (dv (c, d, f))) = e - DAdd.addE (dv (b, a, e)) (dv (c, d, f)) := wrap_i64 (by omega) (by omega)
  have u2 : IntKind.i64.wrap (f - DAdd.addE (dv (b, a, e)) (dv (c, d, f))) = f - DAdd.addE (dv (b, a, e)) (dv (c, d, f)) := wrap_i64 (by omega) (by omega)
  have e1 : (if f < e then f else e) = DAdd.addE (dv (b, a, e)) (dv (c, d, f)) := rfl
  have f1 : (DAdd.addX (dv (b, a, e)) (dv (c, d, f))).natAbs = M6.val a * 2 ^ (e - DAdd.addE (dv (b, a, e)) (dv (c, d, f))).toNat := by
    show (wv (b, a) * _).natAbs = _
    rw [Int.natAbs_mul, ax, Int.natAbs_natCast]
    rfl
  have f2 : (DAdd.addY (dv (b, a, e)) (dv (c, d, f))).natAbs = M6.val d * 2 ^ (f - DAdd.addE (dv (b, a, e)) (dv (c, d, f))).toNat := by
    show (wv (c, d) * _).natAbs = _
    rw [Int.natAbs_mul, ay, Int.natAbs_natCast]
    rfl
  rw [f1, f2, e1, u1, u2]
  generalize DAdd.addE (dv (b, a, e)) (dv (c, d, f)) = k at *
  have m1 : bl (M6.val a * 2 ^ (e - k).toNat) = (e - k).toNat + bl (M6.val a) := by rw [Nat.mul_comm, bl_mul vx]
  have m2 : bl (M6.val d * 2 ^ (f - k).toNat) = (f - k).toNat + bl (M6.val d) := by rw [Nat.mul_comm, bl_mul vy]
  have lt : ∀ m n : Nat, bl m < bl n → m < n := fun m n h => Nat.lt_of_not_le fun hc => by have := bl_mono hc; omega
  by_cases c1 : e + ((bl (M6.val a) : Nat) : Int) - 1 < f + ((bl (M6.val d) : Nat) : Int) - 1
  · have := lt (M6.val a * 2 ^ (e - k).toNat) (M6.val d * 2 ^ (f - k).toNat) (by rw [m1, m2]; omega)
    rw [bD_pos c1]
    unfold cmpN
    rw [if_pos this]
  · rw [bD_neg c1]
    by_cases c2 : f + ((bl (M6.val d) : Nat) : Int) - 1 < e + ((bl (M6.val a) : Nat) : Int) - 1
    · have := lt (M6.val d * 2 ^ (f - k).toNat) (M6.val a * 2 ^ (e - k).toNat) (by rw [m1, m2]; omega)
      rw [bD_pos c2]
      unfold cmpN
      rw [if_neg (by omega), if_pos this]
    · have o1 : NShl.shlOk (M6.val a) (e - k).toNat = true := by
        unfold NShl.shlOk
        rw [decide_eq_true (show bl (M6.val a) + (e - k).toNat ≤ 524288 by omega), Bool.or_true]
      have o2 : NShl.shlOk (M6.val d) (f - k).toNat = true := by
        unfold NShl.shlOk
        rw [decide_eq_true (show bl (M6.val d) + (f - k).toNat ≤ 524288 by omega), Bool.or_true]
      have k1 := len6_bl (n := M6.val a * 2 ^ (e - k).toNat) (k := 8192) (by rw [m1]; omega)
      have k2 := len6_bl (n := M6.val d * 2 ^ (f - k).toNat) (k := 8192) (by rw [m2]; omega)
      rw [bD_neg c2, gP ⟨nx, lx, by omega, by omega⟩, gP ⟨ny, ly, by omega, by omega⟩, o1, o2, cond_true, cond_true, gP ⟨M6.dig_dg _, M6.dig_dg _, by omega, by omega⟩, M6.val_dg, M6.val_dg]

noncomputable def orc : Orc := orc2 (pG (.pair sB (.pair (sI .u64) (sN .i64)))) (pG (.pair sB (.pair (sI .u64) (sN .i64)))) sp
theorem fnok : FnOk Tryz.prog E 59 Tryz.f59 cod := fnOk ty_ok mixed (callsOk_of _ rfl (orcs_cons DTop.ok (orcs_cons NShl.ok (orcs_cons NCmp.ok orcs_nil))) (ext_ok)) Tryz.func59 rfl rfl rfl
theorem ok : OrcOk Tryz.prog base.glob 59 orc := fnok.ok2 rfl spec
end DSize
end Go.Proofs.YtfebndgmmekmgaaGreatDoor.W

/- gnomon/dyadic.Cmp -/
namespace Go.Proofs.YtfebndgmmekmgaaGreatDoor.W
open Go Go.Proofs.YtfebndgmmekmgaaGreatDoor.AI Go.Proofs.YtfebndgmmekmgaaGreatDoor.M
namespace DCmp
noncomputable def E : Env := { ({ base with C := callsOf [(53, DForm.orc), (58, MSign.orc), (59, DSize.orc)] }) with nt := 38, own := [], keep := fun k => (tlook [] k).getD [], cut := tlook [(3, [2, 3])] }
noncomputable def cod : Code := (Go.Proofs.Tryz.f21.body).getD .skip
theorem nok : namesOk E cod = true := by kernel_rfl
noncomputable def J3 (b0 : Bool) (xs1 : List Int) (x2 : Int) (b3 : Bool) (xs4 : List Int) (x5 : Int) : Option (List D) := ctO E Go.Proofs.Tryz.f21 cod 3 [(A.v (V.one (L.ptr (0 : Nat) (0 : Nat))), some { e := (28 : Nat), cont := Cont.cells [S.sc (Value.bool b0), S.ints IntKind.u64 xs1, S.sc (Value.int IntKind.i64 x2)] }), (A.v (V.one (L.ptr (1 : Nat) (0 : Nat))), some { e := (28 : Nat), cont := Cont.cells [S.sc (Value.bool b3), S.ints IntKind.u64 xs4, S.sc (Value.int IntKind.i64 x5)] })]
theorem start (a1 : Bool) (a2 : List Int) (a3 : Int) (b1 : Bool) (b2 : List Int) (b3 : Int) : evalFn E Go.Proofs.Tryz.f21 cod [D.agg [S.sc (Value.bool a1), S.ints IntKind.u64 a2, S.sc (Value.int IntKind.i64 a3)], D.agg [S.sc (Value.bool b1), S.ints IntKind.u64 b2, S.sc (Value.int IntKind.i64 b3)]] = gif (DyOk (a1, a2, a3)) (gif (DyOk (b1, b2, b3)) (DCmp.J3 a1 a2 a3 b1 b2 b3)) := (evalFn_J rfl nok _).trans (by kernel_rfl)
theorem J3_eq (b0 : Bool) (xs1 : List Int) (x2 : Int) (b3 : Bool) (xs4 : List Int) (x5 : Int) : J3 b0 xs1 x2 b3 xs4 x5 = gif (Wok (b0, xs1)) (gif (Wok (b3, xs4)) (bcase (decide (cmpZ (wv (b0, xs1)) (0 : Int) < cmpZ (wv (b3, xs4)) (0 : Int))) (some [D.s (S.sc (Value.int IntKind.i64 (-1 : Int))), D.s (S.sc (Value.int IntKind.i64 (0 : Int)))]) (bcase (decide (cmpZ (wv (b3, xs4)) (0 : Int) < cmpZ (wv (b0, xs1)) (0 : Int))) (some [D.s (S.sc (Value.int IntKind.i64 (1 : Int))), D.s (S.sc (Value.int IntKind.i64 (0 : Int)))]) (bcase (cmpZ (wv (b0, xs1)) (0 : Int) == (0 : Int)) (some [D.s (S.sc (Value.int IntKind.i64 (0 : Int))), D.s (S.sc (Value.int IntKind.i64 (0 : Int)))]) (gif ((DyOk (b0, xs1, x2) ∧ DyOk (b3, xs4, x5)) ∧ (xs1, x2).fst.length ≠ (0 : Nat) ∧ (xs4, x5).fst.length ≠ (0 : Nat)) (some [D.s (S.sc (Value.int IntKind.i64 (IntKind.i64.wrap (cmpZ (wv (b0, xs1)) (0 : Int) * cmpN (DAdd.addX (dv (b0, xs1, x2)) (dv (b3, xs4, x5))).natAbs (DAdd.addY (dv (b0, xs1, x2)) (dv (b3, xs4, x5))).natAbs)))), D.s (S.sc (Value.int IntKind.i64 (0 : Int)))])))))) := (cutAt_J rfl nok 3 _).trans (by kernel_rfl)
-- stuck: 0
end DCmp
namespace DCmp
noncomputable def sp (x y : Bool × List Int × Int) : Prop × List D := (DyOk x ∧ DyOk y, [.s (.sc (.int .i64 (cmpZ (DAdd.addX (dv x) (dv y)) (DAdd.addY (dv x) (dv y))))), .s (.sc (.int .i64 0))])
theorem sgn (z : Int) (P : Nat) (h : 0 < P) : (0 < z → 0 < z * (P : Int)) ∧ (z < 0 → z * (P : Int) < 0) ∧ (z = 0 → z * (P : Int) = 0) :=
  ⟨fun hz => Int.mul_pos hz (by omega), fun hz => Int.mul_neg_of_neg_of_pos hz (by omega), fun hz => by rw [hz, Int.zero_mul]⟩
theorem cz (z : Int) : (0 < z ∧ cmpZ z 0 = 1) ∨ (z < 0 ∧ cmpZ z 0 = -1) ∨ (z = 0 ∧ cmpZ z 0 = 0) := by
  unfold cmpZ
  by_cases h : z < 0
  · rw [if_pos h]; omega
  · rw [if_neg h]
    by_cases h' : 0 < z
    · rw [if_pos h']; omega
    · rw [if_neg h']; omega
theorem spec (x y : Bool × List Int × Int) (h : (sp x y).1) : evalFn E Tryz.f21 cod [(pG (.pair sB (.pair (sI .u64) (sN .i64)))).put x, (pG (.pair sB (.pair (sI .u64) (sN .i64)))).put y] = some (sp x y).2 := by
  obtain ⟨hx, hy⟩ := h
  refine (start x.1 x.2.1 x.2.2 y.1 y.2.1 y.2.2).trans ?_
  have wx := hx.wok
  have wy := hy.wok
  have nx := hx.nrm
  have ny := hy.nrm
  obtain ⟨b, a, e⟩ := x
  obtain ⟨c, d, f⟩ := y
  dsimp only at *
  unfold sp
  dsimp only
  have ax := wv_abs (b, a)
  have ay := wv_abs (c, d)
  dsimp only at ax ay
  have zx := M6.len_zero nx
  have zy := M6.len_zero ny
  have sX : (0 < wv (b, a) → 0 < DAdd.addX (dv (b, a, e)) (dv (c, d, f))) ∧ (wv (b, a) < 0 → DAdd.addX (dv (b, a, e)) (dv (c, d, f)) < 0) ∧ (wv (b, a) = 0 → DAdd.addX (dv (b, a, e)) (dv (c, d, f)) = 0) := sgn _ _ (Nat.pow_pos (by decide))
  have sY : (0 < wv (c, d) → 0 < DAdd.addY (dv (b, a, e)) (dv (c, d, f))) ∧ (wv (c, d) < 0 → DAdd.addY (dv (b, a, e)) (dv (c, d, f)) < 0) ∧ (wv (c, d) = 0 → DAdd.addY (dv (b, a, e)) (dv (c, d, f)) = 0) := sgn _ _ (Nat.pow_pos (by decide))
  rw [gP hx, gP hy, J3_eq, gP wx, gP wy]
  have guard : wv (b, a) ≠ 0 → wv (c, d) ≠ 0 → (DyOk (b, a, e) ∧ DyOk (c, d, f)) ∧ a.length ≠ 0 ∧ d.length ≠ 0 := fun h1 h2 => ⟨⟨hx, hy⟩, fun h => h1 (by have := zx.1 h; omega), fun h => h2 (by have := zy.1 h; omega)⟩
  generalize DAdd.addX (dv (b, a, e)) (dv (c, d, f)) = X at *
  generalize DAdd.addY (dv (b, a, e)) (dv (c, d, f)) = Y at *
  have cXY : ∀ n : Int, cmpZ X Y = n → some [D.s (.sc (.int .i64 n)), D.s (.sc (.int .i64 0))] = some [D.s (.sc (.int .i64 (cmpZ X Y))), D.s (.sc (.int .i64 0))] := fun n h => by rw [h]
  rcases cz (wv (b, a)) with ⟨h1, c1⟩ | ⟨h1, c1⟩ | ⟨h1, c1⟩ <;> rcases cz (wv (c, d)) with ⟨h2, c2⟩ | ⟨h2, c2⟩ | ⟨h2, c2⟩ <;> rw [c1, c2]
  · rw [bD_neg (by omega), bD_neg (by omega), bE_neg (by omega), gP (guard (by omega) (by omega))]
    have := sX.1 h1
    have := sY.1 h2
    refine (congrArg (fun n => some [D.s (.sc (.int .i64 n)), D.s (.sc (.int .i64 0))]) ?_)
    unfold cmpN cmpZ
    split <;> split <;> (try split) <;> (try split) <;> first | rfl | omega
  · rw [bD_neg (by omega), bD_pos (by omega)]
    refine cXY _ ?_
    have := sX.1 h1
    have := sY.2.1 h2
    unfold cmpZ
    rw [if_neg (by omega), if_pos (by omega)]
  · rw [bD_neg (by omega), bD_pos (by omega)]
    refine cXY _ ?_
    have := sX.1 h1
    have := sY.2.2 h2
    unfold cmpZ
    rw [if_neg (by omega), if_pos (by omega)]
  · rw [bD_pos (by omega)]
    refine cXY _ ?_
    have := sX.2.1 h1
    have := sY.1 h2
    unfold cmpZ
    rw [if_pos (by omega)]
  · rw [bD_neg (by omega), bD_neg (by omega), bE_neg (by omega), gP (guard (by omega) (by omega))]
    have := sX.2.1 h1
    have := sY.2.1 h2
    refine (congrArg (fun n => some [D.s (.sc (.int .i64 n)), D.s (.sc (.int .i64 0))]) ?_)
    unfold cmpN cmpZ
    split <;> split <;> (try split) <;> (try split) <;> first | rfl | omega
  · rw [bD_pos (by omega)]
    refine cXY _ ?_
    have := sX.2.1 h1
    have := sY.2.2 h2
    unfold cmpZ
    rw [if_pos (by omega)]
  · rw [bD_pos (by omega)]
    refine cXY _ ?_
    have := sX.2.2 h1
    have := sY.1 h2
    unfold cmpZ
    rw [if_pos (by omega)]
  · rw [bD_neg (by omega), bD_pos (by omega)]
    refine cXY _ ?_
    have := sX.2.2 h1
    have := sY.2.1 h2
    unfold cmpZ
    rw [if_neg (by omega), if_pos (by omega)]
  · rw [bD_neg (by omega), bD_neg (by omega), bE_pos rfl]
    refine cXY _ ?_
    have := sX.2.2 h1
    have := sY.2.2 h2
    unfold cmpZ
    rw [if_neg (by omega), if_neg (by omega)]

noncomputable def orc : Orc := orc2 (pG (.pair sB (.pair (sI .u64) (sN .i64)))) (pG (.pair sB (.pair (sI .u64) (sN .i64)))) sp
theorem fnok : FnOk Tryz.prog E 21 Tryz.f21 cod := fnOk ty_ok mixed (callsOk_of _ rfl (orcs_cons DForm.ok (orcs_cons MSign.ok (orcs_cons DSize.ok orcs_nil))) (ext_ok)) Tryz.func21 rfl rfl rfl
theorem ok : OrcOk Tryz.prog base.glob 21 orc := fnok.ok2 rfl spec
end DCmp
end Go.Proofs.YtfebndgmmekmgaaGreatDoor.W

/- Numbers m * 2^e reckoned on one grid: what sums, multiples, floors come to. No program is in sight. -/
namespace Go.Proofs.YtfebndgmmekmgaaGreatDoor.M
open Go Go.Proofs.YtfebndgmmekmgaaGreatDoor.AI Go.Proofs.YtfebndgmmekmgaaGreatDoor.W

/-- 2^n. -/
def p2 (n : Int) : Int := ((2 ^ n.toNat : Nat) : Int)
theorem p2_pos (n : Int) : 0 < p2 n := by unfold p2; have := Nat.pow_pos (n := n.toNat) (show 0 < 2 by decide); omega
theorem p2_add {m n : Int} (hm : 0 ≤ m) (hn : 0 ≤ n) : p2 (m + n) = p2 m * p2 n := by
  unfold p2
  rw [Int.toNat_add hm hn, Nat.pow_add, Int.natCast_mul]
theorem p2_nat (k : Nat) : p2 (k : Int) = ((2 ^ k : Nat) : Int) := by unfold p2; rw [Int.toNat_natCast]
theorem p2_zero : p2 0 = 1 := rfl
theorem p2_one : p2 1 = 2 := rfl
theorem p2_mono {m n : Int} (h : m ≤ n) : p2 m ≤ p2 n := by
  unfold p2
  have := Nat.pow_le_pow_right (n := 2) (by decide) (show m.toNat ≤ n.toNat by omega)
  omega
theorem nrmD_zero (e : Int) : nrmD 0 e = (0, 0) := by unfold nrmD; rw [if_pos rfl]
theorem nrmD_one_zero {z e : Int} : (nrmD z e).1 = 0 ↔ z = 0 := by
  constructor
  · intro h
    unfold nrmD at h
    by_cases hz : z = 0
    · exact hz
    · rw [if_neg hz] at h
      dsimp only at h
      have hs := (tz_spec z.natAbs (by omega)).1
      have hd : ((2 ^ tz z.natAbs : Nat) : Int) ∣ z := Int.ofNat_dvd_left.2 (Nat.dvd_of_mod_eq_zero hs)
      have := Int.ediv_mul_cancel hd
      rw [h, Int.zero_mul] at this
      omega
  · rintro rfl
    rw [nrmD_zero]
theorem nrmD_val {z e : Int} (hz : z ≠ 0) : z = (nrmD z e).1 * p2 (tz z.natAbs : Nat) ∧ (nrmD z e).2 = e + (tz z.natAbs : Nat) := by
  unfold nrmD
  rw [if_neg hz]
  dsimp only
  have hs := (tz_spec z.natAbs (by omega)).1
  have hd : ((2 ^ tz z.natAbs : Nat) : Int) ∣ z := Int.ofNat_dvd_left.2 (Nat.dvd_of_mod_eq_zero hs)
  rw [p2_nat, Int.ediv_mul_cancel hd]
  exact ⟨rfl, rfl⟩
theorem nrmD_p2 (z e : Int) {k : Int} (hk : 0 ≤ k) : nrmD (z * p2 k) e = nrmD z (e + k) := by
  obtain ⟨n, rfl⟩ := Int.eq_ofNat_of_zero_le hk
  rw [p2_nat]
  by_cases hz : z = 0
  · subst hz
    rw [Int.zero_mul, nrmD_zero, nrmD_zero]
  · have hp : 0 < 2 ^ n := Nat.pow_pos (by decide)
    have hn : z * ((2 ^ n : Nat) : Int) ≠ 0 := Int.mul_ne_zero hz (by omega)
    have ht : tz (z * ((2 ^ n : Nat) : Int)).natAbs = n + tz z.natAbs := by
      rw [Int.natAbs_mul, Int.natAbs_natCast, Nat.mul_comm, tz_mul (by omega)]
    unfold nrmD
    rw [if_neg hz, if_neg hn, ht, Nat.pow_add, Int.natCast_mul, Int.mul_comm z, Int.mul_ediv_mul_of_pos _ _ (by omega)]
    congr 1
    omega
theorem nrmD_same {p : Int × Int} (h0 : p.1 = 0 → p.2 = 0) (h1 : p.1 ≠ 0 → p.1 % 2 = 1) : nrmD p.1 p.2 = p := by
  unfold nrmD
  by_cases hz : p.1 = 0
  · rw [if_pos hz]
    exact Prod.ext hz.symm (h0 hz).symm
  · rw [if_neg hz, tz_odd (by have := h1 hz; omega)]
    refine Prod.ext ?_ ?_
    · show p.1 / ((2 ^ 0 : Nat) : Int) = p.1
      rw [Nat.pow_zero]
      omega
    · show p.2 + ((0 : Nat) : Int) = p.2
      omega
theorem PIn.same {p : Int × Int} (h : PIn p) : nrmD p.1 p.2 = p := nrmD_same h.2.2.1 h.2.2.2
theorem nrmD_odd {z e : Int} (h : (nrmD z e).1 ≠ 0) : (nrmD z e).1 % 2 = 1 := by
  have hz : z ≠ 0 := fun hz => h (nrmD_one_zero.2 hz)
  have hs := (tz_spec z.natAbs (by omega))
  have hv := (nrmD_val (e := e) hz).1
  have ha : z.natAbs = (nrmD z e).1.natAbs * 2 ^ tz z.natAbs := by
    rw [p2_nat] at hv
    have := congrArg Int.natAbs hv
    rwa [Int.natAbs_mul, Int.natAbs_natCast] at this
  have : z.natAbs / 2 ^ tz z.natAbs = (nrmD z e).1.natAbs := by
    have hp : 0 < 2 ^ tz z.natAbs := Nat.pow_pos (by decide)
    generalize tz z.natAbs = t at *
    rw [ha, Nat.mul_div_cancel _ hp]
  rw [this] at hs
  omega
theorem nrmD_zero2 {z e : Int} (h : (nrmD z e).1 = 0) : (nrmD z e).2 = 0 := by rw [nrmD_one_zero.1 h, nrmD_zero]
/-- On the grid G the number is this. -/
theorem nrmD_grid {z e G : Int} (hz : z ≠ 0) (h : G ≤ e) : (nrmD z e).1 * p2 ((nrmD z e).2 - G) = z * p2 (e - G) := by
  obtain ⟨h1, h2⟩ := nrmD_val (e := e) hz
  rw [h2]
  have : e + ((tz z.natAbs : Nat) : Int) - G = ((tz z.natAbs : Nat) : Int) + (e - G) := by omega
  rw [this, p2_add (by omega) (by omega), ← Int.mul_assoc, ← h1]
theorem nrmD_grid0 {z e G : Int} (h : G ≤ e) : (nrmD z e).1 * p2 ((nrmD z e).2 - G) = z * p2 (e - G) := by
  by_cases hz : z = 0
  · subst hz
    rw [nrmD_zero, Int.zero_mul, Int.zero_mul]
  · exact nrmD_grid hz h
theorem nrmD_ge {z e : Int} (hz : z ≠ 0) : e ≤ (nrmD z e).2 := by have := (nrmD_val (e := e) hz).2; omega

theorem nrmD_neg (z e : Int) : nrmD (-z) e = (-(nrmD z e).1, (nrmD z e).2) := by
  by_cases hz : z = 0
  · subst hz
    rw [Int.neg_zero, nrmD_zero]
    rfl
  · have h := nrmD_val (e := e) hz
    unfold nrmD
    rw [if_neg hz, if_neg (by omega), Int.natAbs_neg]
    have hs := (tz_spec z.natAbs (by omega)).1
    have hd : ((2 ^ tz z.natAbs : Nat) : Int) ∣ z := Int.ofNat_dvd_left.2 (Nat.dvd_of_mod_eq_zero hs)
    rw [Int.neg_ediv_of_dvd hd]
theorem scD_nrm (z e n : Int) : DScale.scD (nrmD z e) n = nrmD z (e + n) := by
  unfold DScale.scD
  by_cases hz : z = 0
  · subst hz
    rw [nrmD_zero, nrmD_zero]
    rfl
  · rw [if_neg (fun h => hz (nrmD_one_zero.1 h))]
    unfold nrmD
    rw [if_neg hz, if_neg hz]
    dsimp only
    congr 1
    omega
theorem min_sub {p q : Int × Int} : DAdd.addE p q ≤ p.2 ∧ DAdd.addE p q ≤ q.2 := by unfold DAdd.addE; split <;> omega
/-- A sum on the grid G. -/
theorem addD_nrm {a E b F G : Int} (h1 : G ≤ E) (h2 : G ≤ F) : DAdd.addD (nrmD a E) (nrmD b F) = nrmD (a * p2 (E - G) + b * p2 (F - G)) G := by
  unfold DAdd.addD
  by_cases ha : a = 0
  · subst ha
    rw [if_pos (by rw [nrmD_zero]), Int.zero_mul, Int.zero_add, nrmD_p2 _ _ (by omega), show G + (F - G) = F by omega]
  · rw [if_neg (fun h => ha (nrmD_one_zero.1 h))]
    by_cases hb : b = 0
    · subst hb
      rw [if_pos (by rw [nrmD_zero]), Int.zero_mul, Int.add_zero, nrmD_p2 _ _ (by omega), show G + (E - G) = E by omega]
    · rw [if_neg (fun h => hb (nrmD_one_zero.1 h))]
      have ga := nrmD_grid (e := E) ha h1
      have gb := nrmD_grid (e := F) hb h2
      have la := nrmD_ge (e := E) ha
      have lb := nrmD_ge (e := F) hb
      have hm := min_sub (p := nrmD a E) (q := nrmD b F)
      have hg : G ≤ DAdd.addE (nrmD a E) (nrmD b F) := by unfold DAdd.addE; split <;> omega
      rw [← ga, ← gb]
      unfold DAdd.addX DAdd.addY
      generalize DAdd.addE (nrmD a E) (nrmD b F) = m at *
      generalize nrmD a E = p at *
      generalize nrmD b F = q at *
      have e1 : p2 (p.2 - G) = p2 (p.2 - m) * p2 (m - G) := by rw [← p2_add (by omega) (by omega)]; congr 1; omega
      have e2 : p2 (q.2 - G) = p2 (q.2 - m) * p2 (m - G) := by rw [← p2_add (by omega) (by omega)]; congr 1; omega
      rw [e1, e2, ← Int.mul_assoc, ← Int.mul_assoc, ← Int.add_mul, nrmD_p2 _ _ (by omega), show G + (m - G) = m by omega]
      rfl
/-- A floor. -/
theorem gridD_nrm {z e b : Int} (h : e ≤ b) : DGrid.gridD (nrmD z e) b = nrmD (z / p2 (b - e)) b := by
  unfold DGrid.gridD
  by_cases hz : z = 0
  · subst hz
    rw [nrmD_zero, if_pos (.inl rfl), Int.zero_ediv, nrmD_zero]
  · obtain ⟨h1, h2⟩ := nrmD_val (e := e) hz
    have hn : (nrmD z e).1 ≠ 0 := fun h => hz (nrmD_one_zero.1 h)
    by_cases hb : b ≤ (nrmD z e).2
    · rw [if_pos (.inr hb)]
      have g := nrmD_grid (e := e) hz (Int.le_refl e)
      rw [Int.sub_self, p2_zero, Int.mul_one] at g
      have e1 : p2 ((nrmD z e).2 - e) = p2 ((nrmD z e).2 - b) * p2 (b - e) := by rw [← p2_add (by omega) (by omega)]; congr 1; omega
      rw [e1, ← Int.mul_assoc] at g
      have hp := p2_pos (b - e)
      have : z / p2 (b - e) = (nrmD z e).1 * p2 ((nrmD z e).2 - b) := by
        generalize nrmD z e = p at *
        rw [← g, Int.mul_ediv_cancel _ (by omega)]
      rw [this, nrmD_p2 _ _ (by omega), show b + ((nrmD z e).2 - b) = (nrmD z e).2 by omega, nrmD_same nrmD_zero2 nrmD_odd]
    · rw [if_neg (by omega)]
      have e1 : p2 (b - e) = p2 (b - (nrmD z e).2) * p2 ((tz z.natAbs : Nat) : Int) := by rw [← p2_add (by omega) (by omega)]; congr 1; omega
      rw [e1]
      have hp := p2_pos ((tz z.natAbs : Nat) : Int)
      have : z / (p2 (b - (nrmD z e).2) * p2 ((tz z.natAbs : Nat) : Int)) = (nrmD z e).1 / p2 (b - (nrmD z e).2) := by
        generalize nrmD z e = p at *
        generalize p2 ((tz z.natAbs : Nat) : Int) = q at *
        rw [h1, Int.mul_ediv_mul_of_pos_left _ _ hp]
      rw [this]
      rfl
theorem cmpZ_mul {a b k : Int} (hk : 0 < k) : cmpZ (a * k) (b * k) = cmpZ a b := by
  unfold cmpZ
  by_cases h1 : a < b
  · rw [if_pos h1, if_pos (Int.mul_lt_mul_of_pos_right h1 hk)]
  · rw [if_neg h1, if_neg (fun h => h1 (Int.lt_of_mul_lt_mul_right h (by omega)))]
    by_cases h2 : b < a
    · rw [if_pos h2, if_pos (Int.mul_lt_mul_of_pos_right h2 hk)]
    · rw [if_neg h2, if_neg (fun h => h2 (Int.lt_of_mul_lt_mul_right h (by omega)))]
/-- A comparison on the grid G. -/
theorem cmpD_nrm {a E b F G : Int} (h1 : G ≤ E) (h2 : G ≤ F) : cmpZ (DAdd.addX (nrmD a E) (nrmD b F)) (DAdd.addY (nrmD a E) (nrmD b F)) = cmpZ (a * p2 (E - G)) (b * p2 (F - G)) := by
  have ga := nrmD_grid0 (z := a) h1
  have gb := nrmD_grid0 (z := b) h2
  have hm := min_sub (p := nrmD a E) (q := nrmD b F)
  rw [← ga, ← gb]
  by_cases ha : a = 0
  · subst ha
    rw [nrmD_zero] at *
    unfold DAdd.addX DAdd.addY
    rw [Int.zero_mul, Int.zero_mul]
    dsimp only at *
    have hp1 := p2_pos ((nrmD b F).2 - DAdd.addE (0, 0) (nrmD b F))
    have hp2 := p2_pos ((nrmD b F).2 - G)
    show cmpZ 0 ((nrmD b F).1 * p2 ((nrmD b F).2 - DAdd.addE (0, 0) (nrmD b F))) = _
    have e1 := cmpZ_mul (a := 0) (b := (nrmD b F).1) hp1
    have e2 := cmpZ_mul (a := 0) (b := (nrmD b F).1) hp2
    rw [Int.zero_mul] at e1 e2
    rw [e1, e2]
  · by_cases hb : b = 0
    · subst hb
      rw [nrmD_zero] at *
      unfold DAdd.addX DAdd.addY
      rw [Int.zero_mul, Int.zero_mul]
      have hp1 := p2_pos ((nrmD a E).2 - DAdd.addE (nrmD a E) (0, 0))
      have hp2 := p2_pos ((nrmD a E).2 - G)
      show cmpZ ((nrmD a E).1 * p2 ((nrmD a E).2 - DAdd.addE (nrmD a E) (0, 0))) 0 = _
      have e1 := cmpZ_mul (a := (nrmD a E).1) (b := 0) hp1
      have e2 := cmpZ_mul (a := (nrmD a E).1) (b := 0) hp2
      rw [Int.zero_mul] at e1 e2
      rw [e1, e2]
    · have la := nrmD_ge (e := E) ha
      have lb := nrmD_ge (e := F) hb
      have hg : G ≤ DAdd.addE (nrmD a E) (nrmD b F) := by unfold DAdd.addE; split <;> omega
      unfold DAdd.addX DAdd.addY
      generalize DAdd.addE (nrmD a E) (nrmD b F) = m at *
      generalize nrmD a E = p at *
      generalize nrmD b F = q at *
      have e1 : p2 (p.2 - G) = p2 (p.2 - m) * p2 (m - G) := by rw [← p2_add (by omega) (by omega)]; congr 1; omega
      have e2 : p2 (q.2 - G) = p2 (q.2 - m) * p2 (m - G) := by rw [← p2_add (by omega) (by omega)]; congr 1; omega
      rw [e1, e2, ← Int.mul_assoc, ← Int.mul_assoc, cmpZ_mul (p2_pos _)]
      rfl
/- What fits. -/
theorem inD_of {z e : Int} (h1 : -1048576 ≤ e) (h2 : e + ((bl z.natAbs : Nat) : Int) ≤ 1048577) : inD z e = true := by
  unfold inD
  by_cases hz : z = 0
  · rw [decide_eq_true hz, Bool.true_or]
  · have := tz_bl (n := z.natAbs) (by omega)
    rw [decide_eq_true (show -1048576 ≤ e + ((tz z.natAbs : Nat) : Int) by omega), decide_eq_true (show e + ((tz z.natAbs : Nat) : Int) ≤ 1048576 by omega), Bool.true_and, Bool.or_true]
theorem nrmD_abs (z e : Int) : (nrmD z e).1.natAbs ≤ z.natAbs := by
  unfold nrmD
  split
  · simp
  · exact div_abs (Nat.pow_pos (by decide))
theorem pin_nrm {z e : Int} (hi : inD z e = true) (hf : bl z.natAbs ≤ 524288) : PIn (nrmD z e) := by
  refine ⟨Nat.le_trans (bl_mono (nrmD_abs z e)) hf, ?_, nrmD_zero2, nrmD_odd⟩
  by_cases hz : z = 0
  · subst hz
    rw [nrmD_zero]
    exact ⟨by show (-1048576 : Int) ≤ 0; omega, by show (0 : Int) ≤ 1048576; omega⟩
  · rw [(nrmD_val hz).2]
    unfold inD at hi
    rw [decide_eq_false hz, Bool.false_or, Bool.and_eq_true] at hi
    exact ⟨of_decide_eq_true hi.1, of_decide_eq_true hi.2⟩
theorem abs_p2 (z n : Int) : (z * p2 n).natAbs = z.natAbs * 2 ^ n.toNat := by
  rw [Int.natAbs_mul]
  rfl
/-- A sum on the grid G is answered where all that comes is not too long. -/
theorem addOk_nrm {a E b F G : Int} (h1 : G ≤ E) (h2 : G ≤ F) (h3 : -1048576 ≤ G) (f1 : bl (a * p2 (E - G)).natAbs ≤ 524287) (f2 : bl (b * p2 (F - G)).natAbs ≤ 524287) (f3 : G ≤ 524288) :
    DAdd.addOk (nrmD a E) (nrmD b F) = true := by
  unfold DAdd.addOk
  by_cases ha : a = 0
  · rw [decide_eq_true (nrmD_one_zero.2 ha), Bool.true_or]
  · by_cases hb : b = 0
    · rw [decide_eq_true (nrmD_one_zero.2 hb), Bool.true_or, Bool.or_true]
    · have ga := nrmD_grid (e := E) ha h1
      have gb := nrmD_grid (e := F) hb h2
      have la := nrmD_ge (e := E) ha
      have lb := nrmD_ge (e := F) hb
      have hm := min_sub (p := nrmD a E) (q := nrmD b F)
      have hg : G ≤ DAdd.addE (nrmD a E) (nrmD b F) := by unfold DAdd.addE; split <;> omega
      rw [← ga] at f1
      rw [← gb] at f2
      have inner : ∀ (p : Int × Int) (m : Int), G ≤ m → m ≤ p.2 → bl (p.1 * p2 (p.2 - G)).natAbs ≤ 524287 → p.1 ≠ 0 → bl (p.1 * p2 (p.2 - m)).natAbs + (m - G).toNat ≤ 524287 := by
        intro p m h1 h2 h3 hp
        have e1 : p2 (p.2 - G) = p2 (m - G) * p2 (p.2 - m) := by rw [← p2_add (by omega) (by omega)]; congr 1; omega
        rw [e1, Int.mul_comm (p2 (m - G)), ← Int.mul_assoc, abs_p2, Nat.mul_comm, bl_mul (by
          have := p2_pos (p.2 - m)
          have := Int.mul_ne_zero hp (show p2 (p.2 - m) ≠ 0 by omega)
          omega)] at h3
        omega
      have i1 := inner _ _ hg hm.1 f1 (fun h => ha (nrmD_one_zero.1 h))
      have i2 := inner _ _ hg hm.2 f2 (fun h => hb (nrmD_one_zero.1 h))
      have x1 : bl (DAdd.addX (nrmD a E) (nrmD b F)).natAbs + (DAdd.addE (nrmD a E) (nrmD b F) - G).toNat ≤ 524287 := i1
      have x2 : bl (DAdd.addY (nrmD a E) (nrmD b F)).natAbs + (DAdd.addE (nrmD a E) (nrmD b F) - G).toNat ≤ 524287 := i2
      generalize DAdd.addX (nrmD a E) (nrmD b F) = X at *
      generalize DAdd.addY (nrmD a E) (nrmD b F) = Y at *
      have x3 : bl (X + Y).natAbs ≤ max (bl X.natAbs) (bl Y.natAbs) + 1 := Nat.le_trans (bl_mono (Int.natAbs_add_le _ _)) (bl_add_le _ _)
      have hi : inD (X + Y) (DAdd.addE (nrmD a E) (nrmD b F)) = true := inD_of (by omega) (by omega)
      have yes : ∀ n, bl n ≤ 524288 → fit n = true := fun n h => decide_eq_true h
      rw [decide_eq_false (fun h => ha (nrmD_one_zero.1 h)), decide_eq_false (fun h => hb (nrmD_one_zero.1 h)), hi, yes _ (by omega), yes _ (by omega), yes _ (by omega)]
      rfl
theorem gridOk_nrm {z e b : Int} (_ : e ≤ b) (hb0 : -1048576 ≤ b) (hb : b + ((bl (z / p2 (b - e)).natAbs : Nat) : Int) ≤ 1048577) : DGrid.gridOk (nrmD z e) b = true := by
  unfold DGrid.gridOk
  by_cases hc : (nrmD z e).1 = 0 ∨ b ≤ (nrmD z e).2
  · rw [decide_eq_true hc, Bool.true_or]
  · have hz : z ≠ 0 := fun h => hc (.inl (nrmD_one_zero.2 h))
    obtain ⟨h1, h2⟩ := nrmD_val (e := e) hz
    have e1 : p2 (b - e) = p2 (b - (nrmD z e).2) * p2 ((tz z.natAbs : Nat) : Int) := by rw [← p2_add (by omega) (by omega)]; congr 1; omega
    have hp := p2_pos ((tz z.natAbs : Nat) : Int)
    have : z / p2 (b - e) = (nrmD z e).1 / p2 (b - (nrmD z e).2) := by
      rw [e1]
      generalize nrmD z e = p at *
      generalize p2 ((tz z.natAbs : Nat) : Int) = q at *
      rw [h1, Int.mul_ediv_mul_of_pos_left _ _ hp]
    rw [this] at hb
    rw [decide_eq_false hc, Bool.false_or]
    exact inD_of hb0 hb
theorem scOk_nrm {z e n : Int} (h1 : -1048576 ≤ e + n) (h2 : e + n + ((bl z.natAbs : Nat) : Int) ≤ 1048577) : DScale.scOk (nrmD z e) n = true := by
  unfold DScale.scOk
  by_cases hz : z = 0
  · rw [decide_eq_true (nrmD_one_zero.2 hz), Bool.true_or]
  · have := tz_bl (n := z.natAbs) (by omega)
    have h3 := (nrmD_val (e := e) hz).2
    rw [decide_eq_false (fun h => hz (nrmD_one_zero.1 h)), decide_eq_true (by omega), decide_eq_true (by omega)]
    rfl
theorem bl_p2 {z : Int} {b k : Nat} {n : Int} (h : bl z.natAbs ≤ b) (hn : n ≤ k) : bl (z * p2 n).natAbs ≤ b + k := by
  rw [abs_p2]
  refine bl_le.2 ?_
  rw [Nat.pow_add]
  exact Nat.mul_lt_mul_of_lt_of_le (bl_le.1 h) (Nat.pow_le_pow_right (by decide) (by omega)) (Nat.pow_pos (by decide))
theorem bl_sum {x y : Int} {n : Nat} (h1 : bl x.natAbs ≤ n) (h2 : bl y.natAbs ≤ n) : bl (x + y).natAbs ≤ n + 1 := by
  have := Nat.le_trans (bl_mono (Int.natAbs_add_le x y)) (bl_add_le _ _)
  omega
theorem bl_div {z : Int} {n : Nat} (h : bl z.natAbs ≤ n) (k : Int) : bl (z / p2 k).natAbs ≤ n := Nat.le_trans (bl_mono (div_abs (Nat.pow_pos (by decide)))) h
theorem bl_neg {z : Int} {n : Nat} (h : bl z.natAbs ≤ n) : bl (-z).natAbs ≤ n := by rwa [Int.natAbs_neg]
theorem bl_one : bl (1 : Int).natAbs ≤ 1 := bl_le.2 (by decide)
/- A dyadic answered, by names. -/
theorem vl_dy {R : Type} (V : Int × Int) (k : Bool → List Int → Int → Option R) : (vlet (isNeg V.1) fun b => vlet (M6.dg V.1.natAbs) fun l => vlet V.2 fun e => k b l e) = k (isNeg V.1) (M6.dg V.1.natAbs) V.2 := rfl
theorem vl_z {R : Type} (z : Int) (k : Bool → List Int → Option R) : (vlet (isNeg z) fun b => vlet (dg z.natAbs) fun l => k b l) = k (isNeg z) (dg z.natAbs) := rfl
theorem vl {α R : Type} (x : α) (k : α → Option R) : vlet x k = k x := rfl
end Go.Proofs.YtfebndgmmekmgaaGreatDoor.M

/- gnomon/binary.shapeOf -/
namespace Go.Proofs.YtfebndgmmekmgaaGreatDoor.W
open Go Go.Proofs.YtfebndgmmekmgaaGreatDoor.AI Go.Proofs.YtfebndgmmekmgaaGreatDoor.M
namespace BShape
noncomputable def E : Env := { (base) with nt := 11, own := [], keep := fun k => (tlook [] k).getD [], cut := tlook [] }
noncomputable def cod : Code := (Go.Proofs.Tryz.f67.body).getD .skip
theorem nok : namesOk E cod = true := by kernel_rfl
theorem start (a : Int) : evalFn E Go.Proofs.Tryz.f67 cod [D.s (S.sc (Value.int IntKind.i64 a))] = bcase (a == (32 : Int)) (some [D.agg [S.sc (Value.int IntKind.i64 (32 : Int)), S.sc (Value.int IntKind.i64 (24 : Int)), S.sc (Value.int IntKind.i64 (-149 : Int)), S.sc (Value.int IntKind.u64 (2143289345 : Int))]]) (bcase (a == (64 : Int)) (some [D.agg [S.sc (Value.int IntKind.i64 (64 : Int)), S.sc (Value.int IntKind.i64 (53 : Int)), S.sc (Value.int IntKind.i64 (-1074 : Int)), S.sc (Value.int IntKind.u64 (9221120237041090561 : Int))]]) (some [D.agg [S.sc (Value.int IntKind.i64 (0 : Int)), S.sc (Value.int IntKind.i64 (0 : Int)), S.sc (Value.int IntKind.i64 (0 : Int)), S.sc (Value.int IntKind.u64 (0 : Int))]])) := (evalFn_J rfl nok _).trans (by kernel_rfl)
-- stuck: 0
end BShape
namespace BShape
/-- What a format is made of: width, bits of the mantissa, least exponent, the quiet pattern. -/
def shp (f : Int) : Int × Int × Int × Int := if f = 32 then (32, 24, -149, 2143289345) else if f = 64 then (64, 53, -1074, 9221120237041090561) else (0, 0, 0, 0)
def shC (s : Int × Int × Int × Int) : D := .agg [.sc (.int .i64 s.1), .sc (.int .i64 s.2.1), .sc (.int .i64 s.2.2.1), .sc (.int .u64 s.2.2.2)]
/-- One of the two formats. -/
def Two (s : Int × Int × Int × Int) : Prop := s = (32, 24, -149, 2143289345) ∨ s = (64, 53, -1074, 9221120237041090561)
theorem two32 : Two (32, 24, -149, 2143289345) := .inl rfl
theorem two64 : Two (64, 53, -1074, 9221120237041090561) := .inr rfl
noncomputable def sp (f : Int) : Prop × List D := (True, [shC (shp f)])
theorem spec (f : Int) (h : (sp f).1) : evalFn E Tryz.f67 cod [(pN .i64).put f] = some (sp f).2 := by
  refine (start f).trans ?_
  unfold sp shp
  dsimp only
  by_cases h1 : f = 32
  · rw [bE_pos h1, if_pos h1]
    rfl
  · rw [bE_neg h1, if_neg h1]
    by_cases h2 : f = 64
    · rw [bE_pos h2, if_pos h2]
      rfl
    · rw [bE_neg h2, if_neg h2]
      rfl

noncomputable def orc : Orc := orc1 (pN .i64) sp
theorem fnok : FnOk Tryz.prog E 67 Tryz.f67 cod := fnOk ty_ok mixed (callsOk_of _ rfl orcs_nil (ext_ok)) Tryz.func67 rfl rfl rfl
theorem ok : OrcOk Tryz.prog base.glob 67 orc := fnok.ok1 rfl spec
end BShape
end Go.Proofs.YtfebndgmmekmgaaGreatDoor.W

/- (gnomon/binary.shape).sign -/
namespace Go.Proofs.YtfebndgmmekmgaaGreatDoor.W
open Go Go.Proofs.YtfebndgmmekmgaaGreatDoor.AI Go.Proofs.YtfebndgmmekmgaaGreatDoor.M
namespace BSign
noncomputable def E : Env := { (base) with nt := 7, own := [], keep := fun k => (tlook [] k).getD [], cut := tlook [] }
noncomputable def cod : Code := (Go.Proofs.Tryz.f144.body).getD .skip
theorem nok : namesOk E cod = true := by kernel_rfl
theorem start (a1 : Int) (a2 : Int) (a3 : Int) (a4 : Int) : evalFn E Go.Proofs.Tryz.f144 cod [D.agg [S.sc (Value.int IntKind.i64 a1), S.sc (Value.int IntKind.i64 a2), S.sc (Value.int IntKind.i64 a3), S.sc (Value.int IntKind.u64 a4)]] = if IntKind.i64.wrap (a1 - (1 : Int)) < (0 : Int) then none else some [D.s (S.sc (Value.int IntKind.u64 (IntKind.u64.wrap ((1 : Int) * (↑((2 : Nat) ^ min (IntKind.i64.wrap (a1 - (1 : Int))).toNat (64 : Nat)) : Int)))))] := (evalFn_J rfl nok _).trans (by kernel_rfl)
-- stuck: 0
end BSign
namespace BSign
def signV (s : Int × Int × Int × Int) : Int := if s.1 = 32 then 2147483648 else 9223372036854775808
noncomputable def sp (s : Int × Int × Int × Int) : Prop × List D := (BShape.Two s, [.s (.sc (.int .u64 (signV s)))])
theorem spec (s : Int × Int × Int × Int) (h : (sp s).1) : evalFn E Tryz.f144 cod [(pG (.pair (sN .i64) (.pair (sN .i64) (.pair (sN .i64) (sN .u64))))).put s] = some (sp s).2 := by
  refine (start s.1 s.2.1 s.2.2.1 s.2.2.2).trans ?_
  rcases h with rfl | rfl
  · rfl
  · rfl

noncomputable def orc : Orc := orc1 (pG (.pair (sN .i64) (.pair (sN .i64) (.pair (sN .i64) (sN .u64))))) sp
theorem fnok : FnOk Tryz.prog E 144 Tryz.f144 cod := fnOk ty_ok mixed (callsOk_of _ rfl orcs_nil (ext_ok)) Tryz.func144 rfl rfl rfl
theorem ok : OrcOk Tryz.prog base.glob 144 orc := fnok.ok1 rfl spec
end BSign
end Go.Proofs.YtfebndgmmekmgaaGreatDoor.W

/- gnomon/binary.take -/
namespace Go.Proofs.YtfebndgmmekmgaaGreatDoor.W
open Go Go.Proofs.YtfebndgmmekmgaaGreatDoor.AI Go.Proofs.YtfebndgmmekmgaaGreatDoor.M
namespace BTake
noncomputable def E : Env := { ({ base with C := callsOf [(67, BShape.orc), (144, BSign.orc)] }) with nt := 36, own := [], keep := fun k => (tlook [] k).getD [], cut := tlook [(6, [1, 4, 8])] }
noncomputable def cod : Code := (Go.Proofs.Tryz.f91.body).getD .skip
theorem nok : namesOk E cod = true := by kernel_rfl
noncomputable def J6 (x0 : Int) (x1 : Int) (x2 : Int) (x3 : Int) (x4 : Int) (x5 : Int) (x6 : Int) (x7 : Int) (x8 : Int) : Option (List D) := ctO E Go.Proofs.Tryz.f91 cod 6 [(A.v (V.one (L.s (S.sc (Value.int IntKind.u64 x0)))), none), (A.v (V.one (L.ptr (1 : Nat) (0 : Nat))), some { e := (105 : Nat), cont := Cont.cells [S.sc (Value.int IntKind.i64 x1), S.sc (Value.int IntKind.i64 x2), S.sc (Value.int IntKind.i64 x3), S.sc (Value.int IntKind.u64 x4)] }), (A.v (V.one (L.ptr (2 : Nat) (0 : Nat))), some { e := (105 : Nat), cont := Cont.cells [S.sc (Value.int IntKind.i64 x5), S.sc (Value.int IntKind.i64 x6), S.sc (Value.int IntKind.i64 x7), S.sc (Value.int IntKind.u64 x8)] })]
theorem start (a : Int) (b : Int) : evalFn E Go.Proofs.Tryz.f91 cod [D.s (S.sc (Value.int IntKind.i64 a)), D.s (S.sc (Value.int IntKind.u64 b))] = gif True (bcase ((BShape.shp a).fst == (0 : Int) && ((BShape.shp a).snd.fst == (0 : Int) && ((BShape.shp a).snd.snd.fst == (0 : Int) && ((BShape.shp a).snd.snd.snd == (0 : Int) && true)))) (some [D.agg [S.sc (Value.int IntKind.i64 (BShape.shp a).fst), S.sc (Value.int IntKind.i64 (BShape.shp a).snd.fst), S.sc (Value.int IntKind.i64 (BShape.shp a).snd.snd.fst), S.sc (Value.int IntKind.u64 (BShape.shp a).snd.snd.snd)], D.s (S.sc (Value.bool false)), D.s (S.sc (Value.int IntKind.u64 (0 : Int))), D.s (S.sc (Value.int IntKind.i64 (1 : Int)))]) (bcase (decide ((BShape.shp a).fst < (64 : Int))) (if (BShape.shp a).fst < (0 : Int) then none else bcase (b / (↑((2 : Nat) ^ min (BShape.shp a).fst.toNat (64 : Nat)) : Int) != (0 : Int)) (some [D.agg [S.sc (Value.int IntKind.i64 (BShape.shp a).fst), S.sc (Value.int IntKind.i64 (BShape.shp a).snd.fst), S.sc (Value.int IntKind.i64 (BShape.shp a).snd.snd.fst), S.sc (Value.int IntKind.u64 (BShape.shp a).snd.snd.snd)], D.s (S.sc (Value.bool false)), D.s (S.sc (Value.int IntKind.u64 (0 : Int))), D.s (S.sc (Value.int IntKind.i64 (2 : Int)))]) (BTake.J6 b (0 : Int) (0 : Int) (0 : Int) (0 : Int) (BShape.shp a).fst (BShape.shp a).snd.fst (BShape.shp a).snd.snd.fst (BShape.shp a).snd.snd.snd)) (BTake.J6 b (0 : Int) (0 : Int) (0 : Int) (0 : Int) (BShape.shp a).fst (BShape.shp a).snd.fst (BShape.shp a).snd.snd.fst (BShape.shp a).snd.snd.snd))) := (evalFn_J rfl nok _).trans (by kernel_rfl)
theorem J6_eq (x0 : Int) (x1 : Int) (x2 : Int) (x3 : Int) (x4 : Int) (x5 : Int) (x6 : Int) (x7 : Int) (x8 : Int) : J6 x0 x1 x2 x3 x4 x5 x6 x7 x8 = gif (BShape.Two (x5, x6, x7, x8)) (gif (BShape.Two (x5, x6, x7, x8)) (some [D.agg [S.sc (Value.int IntKind.i64 x5), S.sc (Value.int IntKind.i64 x6), S.sc (Value.int IntKind.i64 x7), S.sc (Value.int IntKind.u64 x8)], D.s (S.sc (Value.bool (bitsI BinOp.and IntKind.u64 x0 (BSign.signV (x5, x6, x7, x8)) != (0 : Int)))), D.s (S.sc (Value.int IntKind.u64 (bitsI BinOp.andNot IntKind.u64 x0 (BSign.signV (x5, x6, x7, x8))))), D.s (S.sc (Value.int IntKind.i64 (0 : Int)))])) := (cutAt_J rfl nok 6 _).trans (by kernel_rfl)
-- stuck: 0
end BTake
namespace BTake
theorem andNot64 {a b : Int} (ha : 0 ≤ a) (ha' : a < 18446744073709551616) (hb : 0 ≤ b) (hb' : b < 18446744073709551616) : bitsI .andNot .u64 a b = ((a.toNat &&& (2 ^ 64 - (b.toNat + 1)) : Nat) : Int) := by
  obtain ⟨n, rfl⟩ := Int.eq_ofNat_of_zero_le ha
  obtain ⟨m, rfl⟩ := Int.eq_ofNat_of_zero_le hb
  rw [bitsI_eq]
  unfold bitsI0
  simp only
  have e : (BitVec.ofInt IntKind.u64.bits (n : Int) &&& ~~~ BitVec.ofInt IntKind.u64.bits (m : Int)).toNat = n &&& (2 ^ 64 - (m + 1)) := by
    show (BitVec.ofInt 64 (n : Int) &&& ~~~ BitVec.ofInt 64 (m : Int)).toNat = _
    rw [BitVec.toNat_and, BitVec.toNat_not]
    have e1 : (BitVec.ofInt 64 (n : Int)).toNat = n := by simp; omega
    have e2 : (BitVec.ofInt 64 (m : Int)).toNat = m := by simp; omega
    rw [e1, e2]
    congr 1
    omega
  have hle : n &&& (2 ^ 64 - (m + 1)) ≤ n := Nat.and_le_left
  rw [e, wrap_u64 (by omega) (by omega)]
  rfl
theorem clear_top {n k : Nat} (hk : k < 64) (h : n < 2 ^ (k + 1)) : n &&& (2 ^ 64 - (2 ^ k + 1)) = n % 2 ^ k := by
  refine Nat.eq_of_testBit_eq fun i => ?_
  have hp : 2 ^ k < 2 ^ 64 := Nat.pow_lt_pow_right (by decide) hk
  rw [Nat.testBit_and, Nat.testBit_two_pow_sub_succ hp, Nat.testBit_mod_two_pow, Nat.testBit_two_pow]
  by_cases h1 : i < k
  · have : ¬ k = i := by omega
    have h64 : i < 64 := by omega
    simp [h1, this, h64]
  · by_cases h2 : i = k
    · subst h2; simp
    · have : n < 2 ^ i := Nat.lt_of_lt_of_le h (Nat.pow_le_pow_right (by decide) (by omega))
      rw [Nat.testBit_lt_two_pow this]
      simp
theorem top_bit {n k : Nat} (h : n < 2 ^ (k + 1)) : (n &&& 2 ^ k) = if 2 ^ k ≤ n then 2 ^ k else 0 := by
  refine Nat.eq_of_testBit_eq fun i => ?_
  rw [Nat.testBit_and, Nat.testBit_two_pow]
  by_cases h1 : 2 ^ k ≤ n
  · have ht : n.testBit k = true := by
      rw [Nat.testBit_eq_decide_div_mod_eq]
      have := Nat.div_eq_of_lt_le (k := 1) (show 1 * 2 ^ k ≤ n by omega) (show n < (1 + 1) * 2 ^ k by rw [Nat.pow_succ] at h; omega)
      rw [this]
      rfl
    rw [if_pos h1, Nat.testBit_two_pow]
    by_cases hi : k = i
    · subst hi; simp [ht]
    · simp [hi]
  · rw [if_neg h1, Nat.zero_testBit]
    by_cases hi : k = i
    · subst hi; rw [Nat.testBit_lt_two_pow (by omega)]; rfl
    · simp [hi]
/-- Is it a pattern of this format? -/
def patB (f b : Int) : Bool := decide (f = 64) || decide (b < 4294967296)
noncomputable def sp (f b : Int) : Prop × List D := ((f = 32 ∨ f = 64) ∧ 0 ≤ b ∧ b < 18446744073709551616, [BShape.shC (BShape.shp f), .s (.sc (.bool (patB f b && decide (BSign.signV (BShape.shp f) ≤ b)))), .s (.sc (.int .u64 (bif patB f b then b % BSign.signV (BShape.shp f) else 0))), .s (.sc (.int .i64 (bif patB f b then 0 else 2)))])
theorem spec (f b : Int) (h : (sp f b).1) : evalFn E Tryz.f91 cod [(pN .i64).put f, (pN .u64).put b] = some (sp f b).2 := by
  obtain ⟨hf, h0, h1⟩ := h
  obtain ⟨n, rfl⟩ := Int.eq_ofNat_of_zero_le h0
  refine (start f n).trans ((gP trivial).trans ?_)
  unfold sp
  dsimp only
  rcases hf with rfl | rfl
  · rw [show BShape.shp 32 = (32, 24, -149, 2143289345) from rfl]
    dsimp only
    rw [bB_neg (by decide), bD_pos (by decide), if_neg (by decide), show min (32 : Int).toNat 64 = 32 from rfl, show BSign.signV (32, 24, -149, 2143289345) = 2147483648 from rfl]
    by_cases hc : (n : Int) < 4294967296
    · have hp : patB 32 n = true := by unfold patB; rw [decide_eq_true hc, Bool.or_true]
      have a1 : bitsI .and .u64 (n : Int) 2147483648 = if (2147483648 : Int) ≤ n then 2147483648 else 0 := by
        rw [and64 (by omega) (by omega) (by omega) (by omega), Int.toNat_natCast]
        have := top_bit (n := n) (k := 31) (by omega)
        rw [show (2147483648 : Int).toNat = 2 ^ 31 from rfl, this]
        split <;> split <;> first | rfl | omega
      have a2 : bitsI .andNot .u64 (n : Int) 2147483648 = (n : Int) % 2147483648 := by
        rw [andNot64 (by omega) (by omega) (by omega) (by omega), Int.toNat_natCast, show (2147483648 : Int).toNat = 2 ^ 31 from rfl, clear_top (by omega) (by omega)]
        omega
      rw [bN_neg (by omega), J6_eq, gP BShape.two32, gP BShape.two32, show BSign.signV (32, 24, -149, 2143289345) = 2147483648 from rfl, a1, a2, hp]
      by_cases hd : (2147483648 : Int) ≤ n
      · rw [if_pos hd, decide_eq_true hd]; rfl
      · rw [if_neg hd, decide_eq_false hd]; rfl
    · have hp : patB 32 n = false := by unfold patB; rw [decide_eq_false hc]; rfl
      rw [bN_pos (by omega), hp]
      rfl
  · rw [show BShape.shp 64 = (64, 53, -1074, 9221120237041090561) from rfl]
    dsimp only
    have hp : patB 64 n = true := rfl
    have a1 : bitsI .and .u64 (n : Int) 9223372036854775808 = if (9223372036854775808 : Int) ≤ n then 9223372036854775808 else 0 := by
      rw [and64 (by omega) (by omega) (by omega) (by omega), Int.toNat_natCast]
      have := top_bit (n := n) (k := 63) (by omega)
      rw [show (9223372036854775808 : Int).toNat = 2 ^ 63 from rfl, this]
      split <;> split <;> first | rfl | omega
    have a2 : bitsI .andNot .u64 (n : Int) 9223372036854775808 = (n : Int) % 9223372036854775808 := by
      rw [andNot64 (by omega) (by omega) (by omega) (by omega), Int.toNat_natCast, show (9223372036854775808 : Int).toNat = 2 ^ 63 from rfl, clear_top (by omega) (by omega)]
      omega
    rw [bB_neg (by decide), bD_neg (by decide), J6_eq, gP BShape.two64, gP BShape.two64, show BSign.signV (64, 53, -1074, 9221120237041090561) = 9223372036854775808 from rfl, a1, a2, hp]
    by_cases hd : (9223372036854775808 : Int) ≤ n
    · rw [if_pos hd, decide_eq_true hd]; rfl
    · rw [if_neg hd, decide_eq_false hd]; rfl

noncomputable def orc : Orc := orc2 (pN .i64) (pN .u64) sp
theorem fnok : FnOk Tryz.prog E 91 Tryz.f91 cod := fnOk ty_ok mixed (callsOk_of _ rfl (orcs_cons BShape.ok (orcs_cons BSign.ok orcs_nil)) (ext_ok)) Tryz.func91 rfl rfl rfl
theorem ok : OrcOk Tryz.prog base.glob 91 orc := fnok.ok2 rfl spec
end BTake
end Go.Proofs.YtfebndgmmekmgaaGreatDoor.W

/- (gnomon/binary.shape).hidden -/
namespace Go.Proofs.YtfebndgmmekmgaaGreatDoor.W
open Go Go.Proofs.YtfebndgmmekmgaaGreatDoor.AI Go.Proofs.YtfebndgmmekmgaaGreatDoor.M
namespace BHidden
noncomputable def E : Env := { (base) with nt := 7, own := [], keep := fun k => (tlook [] k).getD [], cut := tlook [] }
noncomputable def cod : Code := (Go.Proofs.Tryz.f98.body).getD .skip
theorem nok : namesOk E cod = true := by kernel_rfl
theorem start (a1 : Int) (a2 : Int) (a3 : Int) (a4 : Int) : evalFn E Go.Proofs.Tryz.f98 cod [D.agg [S.sc (Value.int IntKind.i64 a1), S.sc (Value.int IntKind.i64 a2), S.sc (Value.int IntKind.i64 a3), S.sc (Value.int IntKind.u64 a4)]] = if IntKind.i64.wrap (a2 - (1 : Int)) < (0 : Int) then none else some [D.s (S.sc (Value.int IntKind.u64 (IntKind.u64.wrap ((1 : Int) * (↑((2 : Nat) ^ min (IntKind.i64.wrap (a2 - (1 : Int))).toNat (64 : Nat)) : Int)))))] := (evalFn_J rfl nok _).trans (by kernel_rfl)
-- stuck: 0
end BHidden
namespace BHidden
def hidV (s : Int × Int × Int × Int) : Int := if s.1 = 32 then 8388608 else 4503599627370496
noncomputable def sp (s : Int × Int × Int × Int) : Prop × List D := (BShape.Two s, [.s (.sc (.int .u64 (hidV s)))])
theorem spec (s : Int × Int × Int × Int) (h : (sp s).1) : evalFn E Tryz.f98 cod [(pG (.pair (sN .i64) (.pair (sN .i64) (.pair (sN .i64) (sN .u64))))).put s] = some (sp s).2 := by
  refine (start s.1 s.2.1 s.2.2.1 s.2.2.2).trans ?_
  rcases h with rfl | rfl
  · rfl
  · rfl

noncomputable def orc : Orc := orc1 (pG (.pair (sN .i64) (.pair (sN .i64) (.pair (sN .i64) (sN .u64))))) sp
theorem fnok : FnOk Tryz.prog E 98 Tryz.f98 cod := fnOk ty_ok mixed (callsOk_of _ rfl orcs_nil (ext_ok)) Tryz.func98 rfl rfl rfl
theorem ok : OrcOk Tryz.prog base.glob 98 orc := fnok.ok1 rfl spec
end BHidden
end Go.Proofs.YtfebndgmmekmgaaGreatDoor.W

/- (gnomon/binary.shape).inf -/
namespace Go.Proofs.YtfebndgmmekmgaaGreatDoor.W
open Go Go.Proofs.YtfebndgmmekmgaaGreatDoor.AI Go.Proofs.YtfebndgmmekmgaaGreatDoor.M
namespace BInf
noncomputable def E : Env := { ({ base with C := callsOf [(144, BSign.orc), (98, BHidden.orc)] }) with nt := 8, own := [], keep := fun k => (tlook [] k).getD [], cut := tlook [] }
noncomputable def cod : Code := (Go.Proofs.Tryz.f97.body).getD .skip
theorem nok : namesOk E cod = true := by kernel_rfl
theorem start (a1 : Int) (a2 : Int) (a3 : Int) (a4 : Int) : evalFn E Go.Proofs.Tryz.f97 cod [D.agg [S.sc (Value.int IntKind.i64 a1), S.sc (Value.int IntKind.i64 a2), S.sc (Value.int IntKind.i64 a3), S.sc (Value.int IntKind.u64 a4)]] = gif (BShape.Two (a1, a2, a3, a4)) (gif (BShape.Two (a1, a2, a3, a4)) (some [D.s (S.sc (Value.int IntKind.u64 (IntKind.u64.wrap (BSign.signV (a1, a2, a3, a4) - BHidden.hidV (a1, a2, a3, a4)))))])) := (evalFn_J rfl nok _).trans (by kernel_rfl)
-- stuck: 0
end BInf
namespace BInf
def infV (s : Int × Int × Int × Int) : Int := if s.1 = 32 then 2139095040 else 9218868437227405312
noncomputable def sp (s : Int × Int × Int × Int) : Prop × List D := (BShape.Two s, [.s (.sc (.int .u64 (infV s)))])
theorem spec (s : Int × Int × Int × Int) (h : (sp s).1) : evalFn E Tryz.f97 cod [(pG (.pair (sN .i64) (.pair (sN .i64) (.pair (sN .i64) (sN .u64))))).put s] = some (sp s).2 := by
  refine (start s.1 s.2.1 s.2.2.1 s.2.2.2).trans ((gP h).trans ((gP h).trans ?_))
  rcases h with rfl | rfl
  · rfl
  · rfl

noncomputable def orc : Orc := orc1 (pG (.pair (sN .i64) (.pair (sN .i64) (.pair (sN .i64) (sN .u64))))) sp
theorem fnok : FnOk Tryz.prog E 97 Tryz.f97 cod := fnOk ty_ok mixed (callsOk_of _ rfl (orcs_cons BSign.ok (orcs_cons BHidden.ok orcs_nil)) (ext_ok)) Tryz.func97 rfl rfl rfl
theorem ok : OrcOk Tryz.prog base.glob 97 orc := fnok.ok1 rfl spec
end BInf
end Go.Proofs.YtfebndgmmekmgaaGreatDoor.W

/- gnomon/binary.finite -/
namespace Go.Proofs.YtfebndgmmekmgaaGreatDoor.W
open Go Go.Proofs.YtfebndgmmekmgaaGreatDoor.AI Go.Proofs.YtfebndgmmekmgaaGreatDoor.M
namespace BFinite
noncomputable def E : Env := { ({ base with C := callsOf [(91, BTake.orc), (97, BInf.orc)] }) with nt := 33, own := [15], keep := fun k => (tlook [] k).getD [], cut := tlook [] }
noncomputable def cod : Code := (Go.Proofs.Tryz.f50.body).getD .skip
theorem nok : namesOk E cod = true := by kernel_rfl
theorem start (a : Int) (b : Int) : evalFn E Go.Proofs.Tryz.f50 cod [D.s (S.sc (Value.int IntKind.i64 a)), D.s (S.sc (Value.int IntKind.u64 b))] = gif ((a = (32 : Int) ∨ a = (64 : Int)) ∧ (0 : Int) ≤ b ∧ b < (18446744073709551616 : Int)) (bcase ((bif BTake.patB a b then (0 : Int) else (2 : Int)) == (0 : Int)) (gif (BShape.Two ((BShape.shp a).fst, (BShape.shp a).snd.fst, (BShape.shp a).snd.snd.fst, (BShape.shp a).snd.snd.snd)) (bcase (decide (BInf.infV ((BShape.shp a).fst, (BShape.shp a).snd.fst, (BShape.shp a).snd.snd.fst, (BShape.shp a).snd.snd.snd) ≤ bif BTake.patB a b then b % BSign.signV (BShape.shp a) else (0 : Int))) (some [D.agg [S.sc (Value.int IntKind.i64 (BShape.shp a).fst), S.sc (Value.int IntKind.i64 (BShape.shp a).snd.fst), S.sc (Value.int IntKind.i64 (BShape.shp a).snd.snd.fst), S.sc (Value.int IntKind.u64 (BShape.shp a).snd.snd.snd)], D.s (S.sc (Value.bool false)), D.s (S.sc (Value.int IntKind.u64 (0 : Int))), D.s (S.sc (Value.int IntKind.i64 (6 : Int)))]) (some [D.agg [S.sc (Value.int IntKind.i64 (BShape.shp a).fst), S.sc (Value.int IntKind.i64 (BShape.shp a).snd.fst), S.sc (Value.int IntKind.i64 (BShape.shp a).snd.snd.fst), S.sc (Value.int IntKind.u64 (BShape.shp a).snd.snd.snd)], D.s (S.sc (Value.bool (BTake.patB a b && decide (BSign.signV (BShape.shp a) ≤ b)))), D.s (S.sc (Value.int IntKind.u64 (bif BTake.patB a b then b % BSign.signV (BShape.shp a) else (0 : Int)))), D.s (S.sc (Value.int IntKind.i64 (bif BTake.patB a b then (0 : Int) else (2 : Int))))]))) (some [D.agg [S.sc (Value.int IntKind.i64 (BShape.shp a).fst), S.sc (Value.int IntKind.i64 (BShape.shp a).snd.fst), S.sc (Value.int IntKind.i64 (BShape.shp a).snd.snd.fst), S.sc (Value.int IntKind.u64 (BShape.shp a).snd.snd.snd)], D.s (S.sc (Value.bool (BTake.patB a b && decide (BSign.signV (BShape.shp a) ≤ b)))), D.s (S.sc (Value.int IntKind.u64 (bif BTake.patB a b then b % BSign.signV (BShape.shp a) else (0 : Int)))), D.s (S.sc (Value.int IntKind.i64 (bif BTake.patB a b then (0 : Int) else (2 : Int))))])) := (evalFn_J rfl nok _).trans (by kernel_rfl)
-- stuck: 0
end BFinite
namespace BFinite
/-- Is it a finite pattern's size? -/
def finB (f b : Int) : Bool := decide (b % BSign.signV (BShape.shp f) < BInf.infV (BShape.shp f))
theorem two_shp {f : Int} (h : f = 32 ∨ f = 64) : BShape.Two (BShape.shp f) := by
  rcases h with rfl | rfl
  · exact .inl rfl
  · exact .inr rfl
noncomputable def sp (f b : Int) : Prop × List D := ((f = 32 ∨ f = 64) ∧ 0 ≤ b ∧ b < 18446744073709551616, [BShape.shC (BShape.shp f), .s (.sc (.bool (BTake.patB f b && (finB f b && decide (BSign.signV (BShape.shp f) ≤ b))))), .s (.sc (.int .u64 (bif BTake.patB f b && finB f b then b % BSign.signV (BShape.shp f) else 0))), .s (.sc (.int .i64 (bif BTake.patB f b then (bif finB f b then 0 else 6) else 2)))])
theorem spec (f b : Int) (h : (sp f b).1) : evalFn E Tryz.f50 cod [(pN .i64).put f, (pN .u64).put b] = some (sp f b).2 := by
  refine (start f b).trans ((gP h).trans ?_)
  unfold sp finB
  dsimp only
  have ht := two_shp h.1
  generalize BShape.shp f = s at *
  obtain ⟨s1, s2, s3, s4⟩ := s
  cases hp : BTake.patB f b with
  | false => rfl
  | true =>
    dsimp only [cond_true, Bool.true_and]
    rw [bE_pos rfl, gP ht]
    by_cases hc : b % BSign.signV (s1, s2, s3, s4) < BInf.infV (s1, s2, s3, s4)
    · rw [bD_neg (by omega), decide_eq_true hc]
      rfl
    · rw [bD_pos (by omega), decide_eq_false hc]
      rfl

noncomputable def orc : Orc := orc2 (pN .i64) (pN .u64) sp
theorem fnok : FnOk Tryz.prog E 50 Tryz.f50 cod := fnOk ty_ok mixed (callsOk_of _ rfl (orcs_cons BTake.ok (orcs_cons BInf.ok orcs_nil)) (ext_ok)) Tryz.func50 rfl rfl rfl
theorem ok : OrcOk Tryz.prog base.glob 50 orc := fnok.ok2 rfl spec
end BFinite
end Go.Proofs.YtfebndgmmekmgaaGreatDoor.W

/- (gnomon/binary.shape).parts -/
namespace Go.Proofs.YtfebndgmmekmgaaGreatDoor.W
open Go Go.Proofs.YtfebndgmmekmgaaGreatDoor.AI Go.Proofs.YtfebndgmmekmgaaGreatDoor.M
namespace BParts
noncomputable def E : Env := { ({ base with C := callsOf [(98, BHidden.orc)] }) with nt := 31, own := [], keep := fun k => (tlook [] k).getD [], cut := tlook [] }
noncomputable def cod : Code := (Go.Proofs.Tryz.f51.body).getD .skip
theorem nok : namesOk E cod = true := by kernel_rfl
theorem start (a1 : Int) (a2 : Int) (a3 : Int) (a4 : Int) (b : Int) : evalFn E Go.Proofs.Tryz.f51 cod [D.agg [S.sc (Value.int IntKind.i64 a1), S.sc (Value.int IntKind.i64 a2), S.sc (Value.int IntKind.i64 a3), S.sc (Value.int IntKind.u64 a4)], D.s (S.sc (Value.int IntKind.u64 b))] = gif (BShape.Two (a1, a2, a3, a4)) (if BHidden.hidV (a1, a2, a3, a4) = (0 : Int) then none else gif (BShape.Two (a1, a2, a3, a4)) (if BHidden.hidV (a1, a2, a3, a4) = (0 : Int) then none else bcase (IntKind.u64.wrap (b.tdiv (BHidden.hidV (a1, a2, a3, a4))) == (0 : Int)) (some [D.s (S.sc (Value.int IntKind.u64 (b.tmod (BHidden.hidV (a1, a2, a3, a4))))), D.s (S.sc (Value.int IntKind.i64 a3))]) (gif (BShape.Two (a1, a2, a3, a4)) (some [D.s (S.sc (Value.int IntKind.u64 (IntKind.u64.wrap (BHidden.hidV (a1, a2, a3, a4) + b.tmod (BHidden.hidV (a1, a2, a3, a4)))))), D.s (S.sc (Value.int IntKind.i64 (IntKind.i64.wrap (IntKind.i64.wrap (a3 + IntKind.i64.wrap (IntKind.u64.wrap (b.tdiv (BHidden.hidV (a1, a2, a3, a4))))) - (1 : Int)))))])))) := (evalFn_J rfl nok _).trans (by kernel_rfl)
-- stuck: 0
end BParts
namespace BParts
/-- Mantissa and exponent of a size. -/
def manV (s : Int × Int × Int × Int) (n : Int) : Int := if n / BHidden.hidV s = 0 then n % BHidden.hidV s else BHidden.hidV s + n % BHidden.hidV s
def expV (s : Int × Int × Int × Int) (n : Int) : Int := if n / BHidden.hidV s = 0 then s.2.2.1 else s.2.2.1 + n / BHidden.hidV s - 1
noncomputable def sp (s : Int × Int × Int × Int) (n : Int) : Prop × List D := (BShape.Two s ∧ 0 ≤ n ∧ n < 9223372036854775808, [.s (.sc (.int .u64 (manV s n))), .s (.sc (.int .i64 (expV s n)))])
theorem spec (s : Int × Int × Int × Int) (n : Int) (h : (sp s n).1) : evalFn E Tryz.f51 cod [(pG (.pair (sN .i64) (.pair (sN .i64) (.pair (sN .i64) (sN .u64))))).put s, (pN .u64).put n] = some (sp s n).2 := by
  obtain ⟨ht, h0, h1⟩ := h
  obtain ⟨s1, s2, s3, s4⟩ := s
  refine (start s1 s2 s3 s4 n).trans ?_
  have hh : BHidden.hidV (s1, s2, s3, s4) = 8388608 ∨ BHidden.hidV (s1, s2, s3, s4) = 4503599627370496 := by
    unfold BHidden.hidV
    split <;> simp
  have hs : -1074 ≤ s3 ∧ s3 ≤ 0 := by rcases ht with ht | ht <;> (cases ht; omega)
  unfold sp manV expV
  dsimp only
  rw [gP ht, gP ht, gP ht]
  generalize BHidden.hidV (s1, s2, s3, s4) = d at *
  have t1 : n.tdiv d = n / d := Int.tdiv_eq_ediv_of_nonneg h0
  have t2 : n.tmod d = n % d := Int.tmod_eq_emod_of_nonneg h0
  have b1 : 0 ≤ n / d ∧ n / d < 9223372036854775808 := by rcases hh with rfl | rfl <;> omega
  have b2 : 0 ≤ n % d ∧ n % d < 4503599627370496 := by rcases hh with rfl | rfl <;> omega
  rw [t1, t2, if_neg (by omega), if_neg (by omega), wrap_u64 (n := n / d) (by omega) (by omega)]
  by_cases hz : n / d = 0
  · rw [bE_pos hz, if_pos hz, if_pos hz]
  · rw [bE_neg hz, if_neg hz, if_neg hz, wrap_u64 (by omega) (by omega), wrap_i64 (n := n / d) (by omega) (by omega), wrap_i64 (n := s3 + n / d) (by omega) (by omega), wrap_i64 (by omega) (by omega)]

noncomputable def orc : Orc := orc2 (pG (.pair (sN .i64) (.pair (sN .i64) (.pair (sN .i64) (sN .u64))))) (pN .u64) sp
theorem fnok : FnOk Tryz.prog E 51 Tryz.f51 cod := fnOk ty_ok mixed (callsOk_of _ rfl (orcs_cons BHidden.ok orcs_nil) (ext_ok)) Tryz.func51 rfl rfl rfl
theorem ok : OrcOk Tryz.prog base.glob 51 orc := fnok.ok2 rfl spec
end BParts
end Go.Proofs.YtfebndgmmekmgaaGreatDoor.W

/- gnomon/binary.number -/
namespace Go.Proofs.YtfebndgmmekmgaaGreatDoor.W
open Go Go.Proofs.YtfebndgmmekmgaaGreatDoor.AI Go.Proofs.YtfebndgmmekmgaaGreatDoor.M
namespace BNumber
noncomputable def E : Env := { ({ base with C := callsOf [(66, NWord.orc), (57, DMake.orc)] }) with nt := 20, own := [17], keep := fun k => (tlook [] k).getD [], cut := tlook [] }
noncomputable def cod : Code := (Go.Proofs.Tryz.f52.body).getD .skip
theorem nok : namesOk E cod = true := by kernel_rfl
theorem start (a : Bool) (b : Int) (c : Int) : evalFn E Go.Proofs.Tryz.f52 cod [D.s (S.sc (Value.bool a)), D.s (S.sc (Value.int IntKind.u64 b)), D.s (S.sc (Value.int IntKind.i64 c))] = bcase a (gif ((0 : Int) ≤ b ∧ b < (18446744073709551616 : Int)) (gif (Wok (b != (0 : Int), M6.dg b.toNat) ∧ (-9223372036854775808 : Int) ≤ c ∧ c < (9223372036854775808 : Int)) (some [D.agg [S.sc (Value.bool (isNeg (bif inD (wv (bif true then b != (0 : Int) else false, M6.dg b.toNat)) c then nrmD (wv (bif true then b != (0 : Int) else false, M6.dg b.toNat)) c else ((0 : Int), (0 : Int))).fst)), S.ints IntKind.u64 (M6.dg (bif inD (wv (bif true then b != (0 : Int) else false, M6.dg b.toNat)) c then nrmD (wv (bif true then b != (0 : Int) else false, M6.dg b.toNat)) c else ((0 : Int), (0 : Int))).fst.natAbs), S.sc (Value.int IntKind.i64 (bif inD (wv (bif true then b != (0 : Int) else false, M6.dg b.toNat)) c then nrmD (wv (bif true then b != (0 : Int) else false, M6.dg b.toNat)) c else ((0 : Int), (0 : Int))).snd)], D.s (S.sc (Value.int IntKind.i64 (bif inD (wv (b != (0 : Int), M6.dg b.toNat)) c then (0 : Int) else (5 : Int))))]))) (gif ((0 : Int) ≤ b ∧ b < (18446744073709551616 : Int)) (gif (Wok (false, M6.dg b.toNat) ∧ (-9223372036854775808 : Int) ≤ c ∧ c < (9223372036854775808 : Int)) (some [D.agg [S.sc (Value.bool (isNeg (bif inD (wv (false, M6.dg b.toNat)) c then nrmD (wv (false, M6.dg b.toNat)) c else ((0 : Int), (0 : Int))).fst)), S.ints IntKind.u64 (M6.dg (bif inD (wv (false, M6.dg b.toNat)) c then nrmD (wv (false, M6.dg b.toNat)) c else ((0 : Int), (0 : Int))).fst.natAbs), S.sc (Value.int IntKind.i64 (bif inD (wv (false, M6.dg b.toNat)) c then nrmD (wv (false, M6.dg b.toNat)) c else ((0 : Int), (0 : Int))).snd)], D.s (S.sc (Value.int IntKind.i64 (bif inD (wv (false, M6.dg b.toNat)) c then (0 : Int) else (5 : Int))))]))) := (evalFn_J rfl nok _).trans (by kernel_rfl)
-- stuck: 0
end BNumber
namespace BNumber
noncomputable def sp (a : Bool) (b c : Int) : Prop × List D := ((0 ≤ b ∧ b < 18446744073709551616) ∧ -9223372036854775808 ≤ c ∧ c < 9223372036854775808, dE (inD (zs a b.toNat) c) (nrmD (zs a b.toNat) c))
theorem spec (a : Bool) (b c : Int) (h : (sp a b c).1) : evalFn E Tryz.f52 cod [pB.put a, (pN .u64).put b, (pN .i64).put c] = some (sp a b c).2 := by
  obtain ⟨hb, hc⟩ := h
  refine (start a b c).trans ?_
  have hl := len6_bl (n := b.toNat) (k := 1) (bl_le.2 (by omega))
  have wv_of : ∀ s : Bool, wv (s, M6.dg b.toNat) = zs s b.toNat := fun s => by show zs s (M6.val (M6.dg b.toNat)) = _; rw [M6.val_dg]
  have h0 : Wok (false, M6.dg b.toNat) := ⟨M6.nrm_dg _, fun h => Bool.noConfusion h, (by omega : (M6.dg b.toNat).length ≤ 8192)⟩
  cases a with
  | false =>
    rw [bF, gP hb, gP ⟨h0, hc⟩, wv_of]
    rfl
  | true =>
    have h1 : Wok (b != 0, M6.dg b.toNat) := ⟨M6.nrm_dg _, fun h => by
      have hb0 : b ≠ 0 := bne_iff_ne.1 h
      show M6.val (M6.dg b.toNat) ≠ 0
      rw [M6.val_dg]
      omega, by show (M6.dg b.toNat).length ≤ 8192; omega⟩
    have e : zs (b != 0) b.toNat = zs true b.toNat := by
      by_cases hb0 : b = 0
      · subst hb0; rfl
      · rw [bne_iff_ne.2 hb0]
    rw [bT]
    dsimp only [cond_true]
    rw [gP hb, gP ⟨h1, hc⟩, wv_of, e]
    rfl

noncomputable def orc : Orc := orc3 pB (pN .u64) (pN .i64) sp
theorem fnok : FnOk Tryz.prog E 52 Tryz.f52 cod := fnOk ty_ok mixed (callsOk_of _ rfl (orcs_cons NWord.ok (orcs_cons DMake.ok orcs_nil)) (ext_ok)) Tryz.func52 rfl rfl rfl
theorem ok : OrcOk Tryz.prog base.glob 52 orc := fnok.ok3 rfl spec
end BNumber
end Go.Proofs.YtfebndgmmekmgaaGreatDoor.W

/- gnomon/binary.Value -/
namespace Go.Proofs.YtfebndgmmekmgaaGreatDoor.W
open Go Go.Proofs.YtfebndgmmekmgaaGreatDoor.AI Go.Proofs.YtfebndgmmekmgaaGreatDoor.M
namespace BValue
noncomputable def E : Env := { ({ base with C := callsOf [(50, BFinite.orc), (51, BParts.orc), (52, BNumber.orc)] }) with nt := 36, own := [15, 33], keep := fun k => (tlook [] k).getD [], cut := tlook [] }
noncomputable def cod : Code := (Go.Proofs.Tryz.f15.body).getD .skip
theorem nok : namesOk E cod = true := by kernel_rfl
theorem start (a : Int) (b : Int) : evalFn E Go.Proofs.Tryz.f15 cod [D.s (S.sc (Value.int IntKind.i64 a)), D.s (S.sc (Value.int IntKind.u64 b))] = gif ((a = (32 : Int) ∨ a = (64 : Int)) ∧ (0 : Int) ≤ b ∧ b < (18446744073709551616 : Int))
  (bcase ((bif BTake.patB a b then bif BFinite.finB a b then (0 : Int) else (6 : Int) else (2 : Int)) != (0 : Int)) (some [D.agg [S.sc (Value.bool false), S.sc (Value.slice none (0 : Nat) (0 : Nat)), S.sc (Value.int IntKind.i64 (0 : Int))], D.s (S.sc (Value.int IntKind.i64 (bif BTake.patB a b then bif BFinite.finB a b then (0 : Int) else (6 : Int) else (2 : Int))))])
    (gif (BShape.Two ((BShape.shp a).fst, (BShape.shp a).snd.fst, (BShape.shp a).snd.snd.fst, (BShape.shp a).snd.snd.snd) ∧ ((0 : Int) ≤ bif BTake.patB a b && BFinite.finB a b then b % BSign.signV (BShape.shp a) else (0 : Int)) ∧ (bif BTake.patB a b && BFinite.finB a b then b % BSign.signV (BShape.shp a) else (0 : Int)) < (9223372036854775808 : Int))
      (gif (((0 : Int) ≤ BParts.manV ((BShape.shp a).fst, (BShape.shp a).snd.fst, (BShape.shp a).snd.snd.fst, (BShape.shp a).snd.snd.snd) (bif BTake.patB a b && BFinite.finB a b then b % BSign.signV (BShape.shp a) else (0 : Int)) ∧ BParts.manV ((BShape.shp a).fst, (BShape.shp a).snd.fst, (BShape.shp a).snd.snd.fst, (BShape.shp a).snd.snd.snd) (bif BTake.patB a b && BFinite.finB a b then b % BSign.signV (BShape.shp a) else (0 : Int)) < (18446744073709551616 : Int)) ∧ (-9223372036854775808 : Int) ≤ BParts.expV ((BShape.shp a).fst, (BShape.shp a).snd.fst, (BShape.shp a).snd.snd.fst, (BShape.shp a).snd.snd.snd) (bif BTake.patB a b && BFinite.finB a b then b % BSign.signV (BShape.shp a) else (0 : Int)) ∧ BParts.expV ((BShape.shp a).fst, (BShape.shp a).snd.fst, (BShape.shp a).snd.snd.fst, (BShape.shp a).snd.snd.snd) (bif BTake.patB a b && BFinite.finB a b then b % BSign.signV (BShape.shp a) else (0 : Int)) < (9223372036854775808 : Int))
        (some [D.agg [S.sc (Value.bool (isNeg (bif inD (zs (BTake.patB a b && (BFinite.finB a b && decide (BSign.signV (BShape.shp a) ≤ b))) (BParts.manV ((BShape.shp a).fst, (BShape.shp a).snd.fst, (BShape.shp a).snd.snd.fst, (BShape.shp a).snd.snd.snd) (bif BTake.patB a b && BFinite.finB a b then b % BSign.signV (BShape.shp a) else (0 : Int))).toNat) (BParts.expV ((BShape.shp a).fst, (BShape.shp a).snd.fst, (BShape.shp a).snd.snd.fst, (BShape.shp a).snd.snd.snd) (bif BTake.patB a b && BFinite.finB a b then b % BSign.signV (BShape.shp a) else (0 : Int))) then nrmD (zs (BTake.patB a b && (BFinite.finB a b && decide (BSign.signV (BShape.shp a) ≤ b))) (BParts.manV ((BShape.shp a).fst, (BShape.shp a).snd.fst, (BShape.shp a).snd.snd.fst, (BShape.shp a).snd.snd.snd) (bif BTake.patB a b && BFinite.finB a b then b % BSign.signV (BShape.shp a) else (0 : Int))).toNat) (BParts.expV ((BShape.shp a).fst, (BShape.shp a).snd.fst, (BShape.shp a).snd.snd.fst, (BShape.shp a).snd.snd.snd) (bif BTake.patB a b && BFinite.finB a b then b % BSign.signV (BShape.shp a) else (0 : Int))) else ((0 : Int), (0 : Int))).fst)), S.ints IntKind.u64 (M6.dg (bif inD (zs (BTake.patB a b && (BFinite.finB a b && decide (BSign.signV (BShape.shp a) ≤ b))) (BParts.manV ((BShape.shp a).fst, (BShape.shp a).snd.fst, (BShape.shp a).snd.snd.fst, (BShape.shp a).snd.snd.snd) (bif BTake.patB a b && BFinite.finB a b then b % BSign.signV (BShape.shp a) else (0 : Int))).toNat) (BParts.expV ((BShape.shp a).fst, (BShape.shp a).snd.fst, (BShape.shp a).snd.snd.fst, (BShape.shp a).snd.snd.snd) (bif BTake.patB a b && BFinite.finB a b then b % BSign.signV (BShape.shp a) else (0 : Int))) then nrmD (zs (BTake.patB a b && (BFinite.finB a b && decide (BSign.signV (BShape.shp a) ≤ b))) (BParts.manV ((BShape.shp a).fst, (BShape.shp a).snd.fst, (BShape.shp a).snd.snd.fst, (BShape.shp a).snd.snd.snd) (bif BTake.patB a b && BFinite.finB a b then b % BSign.signV (BShape.shp a) else (0 : Int))).toNat) (BParts.expV ((BShape.shp a).fst, (BShape.shp a).snd.fst, (BShape.shp a).snd.snd.fst, (BShape.shp a).snd.snd.snd) (bif BTake.patB a b && BFinite.finB a b then b % BSign.signV (BShape.shp a) else (0 : Int))) else ((0 : Int), (0 : Int))).fst.natAbs), S.sc (Value.int IntKind.i64 (bif inD (zs (BTake.patB a b && (BFinite.finB a b && decide (BSign.signV (BShape.shp a) ≤ b))) (BParts.manV ((BShape.shp a).fst, (BShape.shp a).snd.fst, (BShape.shp a).snd.snd.fst, (BShape.shp a).snd.snd.snd) (bif BTake.patB a b && BFinite.finB a b then b % BSign.signV (BShape.shp a) else (0 : Int))).toNat) (BParts.expV ((BShape.shp a).fst, (BShape.shp a).snd.fst, (BShape.shp a).snd.snd.fst, (BShape.shp a).snd.snd.snd) (bif BTake.patB a b && BFinite.finB a b then b % BSign.signV (BShape.shp a) else (0 : Int))) then nrmD (zs (BTake.patB a b && (BFinite.finB a b && decide (BSign.signV (BShape.shp a) ≤ b))) (BParts.manV ((BShape.shp a).fst, (BShape.shp a).snd.fst, (BShape.shp a).snd.snd.fst, (BShape.shp a).snd.snd.snd) (bif BTake.patB a b && BFinite.finB a b then b % BSign.signV (BShape.shp a) else (0 : Int))).toNat) (BParts.expV ((BShape.shp a).fst, (BShape.shp a).snd.fst, (BShape.shp a).snd.snd.fst, (BShape.shp a).snd.snd.snd) (bif BTake.patB a b && BFinite.finB a b then b % BSign.signV (BShape.shp a) else (0 : Int))) else ((0 : Int), (0 : Int))).snd)], D.s (S.sc (Value.int IntKind.i64 (bif inD (zs (BTake.patB a b && (BFinite.finB a b && decide (BSign.signV (BShape.shp a) ≤ b))) (BParts.manV ((BShape.shp a).fst, (BShape.shp a).snd.fst, (BShape.shp a).snd.snd.fst, (BShape.shp a).snd.snd.snd) (bif BTake.patB a b && BFinite.finB a b then b % BSign.signV (BShape.shp a) else (0 : Int))).toNat) (BParts.expV ((BShape.shp a).fst, (BShape.shp a).snd.fst, (BShape.shp a).snd.snd.fst, (BShape.shp a).snd.snd.snd) (bif BTake.patB a b && BFinite.finB a b then b % BSign.signV (BShape.shp a) else (0 : Int))) then (0 : Int) else (5 : Int))))])))) := (evalFn_J rfl nok _).trans (by kernel_rfl)
-- stuck: 0
end BValue
namespace BValue
/-- The number of a finite pattern: whole number and exponent, as they lie in the pattern. -/
def valZ (f b : Int) : Int := zs (decide (BSign.signV (BShape.shp f) ≤ b)) (BParts.manV (BShape.shp f) (b % BSign.signV (BShape.shp f))).toNat
def valE (f b : Int) : Int := BParts.expV (BShape.shp f) (b % BSign.signV (BShape.shp f))
noncomputable def sp (f b : Int) : Prop × List D := ((f = 32 ∨ f = 64) ∧ 0 ≤ b ∧ b < 18446744073709551616, [dD (bif BTake.patB f b && BFinite.finB f b then nrmD (valZ f b) (valE f b) else (0, 0)), .s (.sc (.int .i64 (bif BTake.patB f b then (bif BFinite.finB f b then 0 else 6) else 2)))])
theorem man_lt {s : Int × Int × Int × Int} {n : Int} (_ : BShape.Two s) (_ : 0 ≤ n) : 0 ≤ BParts.manV s n ∧ BParts.manV s n < 9007199254740992 := by
  unfold BParts.manV BHidden.hidV
  split <;> split <;> omega
theorem exp_lt {s : Int × Int × Int × Int} {n : Int} (ht : BShape.Two s) (h0 : 0 ≤ n) (h1 : n < BInf.infV s) : -1074 ≤ BParts.expV s n ∧ BParts.expV s n < 1024 := by
  rcases ht with rfl | rfl
  · unfold BParts.expV
    have : n < 2139095040 := h1
    rw [show BHidden.hidV (32, 24, -149, 2143289345) = 8388608 from rfl]
    dsimp only
    split <;> omega
  · unfold BParts.expV
    have : n < 9218868437227405312 := h1
    rw [show BHidden.hidV (64, 53, -1074, 9221120237041090561) = 4503599627370496 from rfl]
    dsimp only
    split <;> omega
theorem in_val {z e : Int} (hz : z.natAbs < 9007199254740992) (h0 : -1074 ≤ e) (h1 : e < 1024) : inD z e = true := by
  unfold inD
  by_cases hc : z = 0
  · rw [decide_eq_true hc, Bool.true_or]
  · have h2 := tz_bl (n := z.natAbs) (by omega)
    have h3 : bl z.natAbs ≤ 53 := bl_le.2 (by omega)
    rw [decide_eq_true (show -1048576 ≤ e + ((tz z.natAbs : Nat) : Int) by omega), decide_eq_true (show e + ((tz z.natAbs : Nat) : Int) ≤ 1048576 by omega), Bool.true_and, Bool.or_true]
theorem spec (f b : Int) (h : (sp f b).1) : ∃ rs, evalFn E Tryz.f15 cod [(pN .i64).put f, (pN .u64).put b] = some rs ∧ RsLe rs (sp f b).2 := by
  have e := (start f b).trans (gP h)
  have ht := BFinite.two_shp h.1
  have hb0 : 0 ≤ b := h.2.1
  unfold sp
  dsimp only
  cases hp : BTake.patB f b with
  | false =>
    rw [hp] at e
    refine ⟨_, e, .cons ?_ (RsLe.refl _)⟩
    unfold dD
    rw [Bool.false_and, cond_false, show ((0, 0) : Int × Int).1.natAbs = 0 from rfl, M6.dg_zero]
    exact RLe.agg (.cons (SLe.refl _) (.cons (SLe.nil _) (CsLe.refl _)))
  | true =>
    rw [hp] at e
    cases hq : BFinite.finB f b with
    | false =>
      rw [hq] at e
      refine ⟨_, e, .cons ?_ (RsLe.refl _)⟩
      unfold dD
      rw [Bool.and_false, cond_false, show ((0, 0) : Int × Int).1.natAbs = 0 from rfl, M6.dg_zero]
      exact RLe.agg (.cons (SLe.refl _) (.cons (SLe.nil _) (CsLe.refl _)))
    | true =>
      rw [hq] at e
      have hn0 : 0 ≤ b % BSign.signV (BShape.shp f) := by
        unfold BSign.signV
        split <;> omega
      have hfin : b % BSign.signV (BShape.shp f) < BInf.infV (BShape.shp f) := of_decide_eq_true hq
      have hinf : BInf.infV (BShape.shp f) ≤ 9218868437227405312 := by unfold BInf.infV; split <;> omega
      have hm := man_lt ht hn0
      have hx := exp_lt ht hn0 hfin
      rw [show (true && true) = true from rfl] at e
      dsimp only [cond_true] at e
      rw [show ((BShape.shp f).1, (BShape.shp f).2.1, (BShape.shp f).2.2.1, (BShape.shp f).2.2.2) = BShape.shp f from rfl] at e
      rw [bN_neg rfl, gP ⟨ht, hn0, by omega⟩, gP ⟨⟨hm.1, by omega⟩, by omega, by omega⟩] at e
      refine ⟨_, e, ?_⟩
      have hi : inD (valZ f b) (valE f b) = true := in_val (by unfold valZ; rw [zs_abs]; omega) hx.1 hx.2
      unfold valZ valE at hi
      unfold valZ valE
      rw [show (true && (true && decide (BSign.signV (BShape.shp f) ≤ b))) = decide (BSign.signV (BShape.shp f) ≤ b) from rfl, hi]
      exact RsLe.refl _

noncomputable def orc : Orc := orc2 (pN .i64) (pN .u64) sp
theorem fnok : FnOk Tryz.prog E 15 Tryz.f15 cod := fnOk ty_ok mixed (callsOk_of _ rfl (orcs_cons BFinite.ok (orcs_cons BParts.ok (orcs_cons BNumber.ok orcs_nil))) (ext_ok)) Tryz.func15 rfl rfl rfl
theorem ok : OrcOk Tryz.prog base.glob 15 orc := fnok.wk2 rfl spec
end BValue
end Go.Proofs.YtfebndgmmekmgaaGreatDoor.W

/- gnomon/num.Of -/
namespace Go.Proofs.YtfebndgmmekmgaaGreatDoor.W
open Go Go.Proofs.YtfebndgmmekmgaaGreatDoor.AI Go.Proofs.YtfebndgmmekmgaaGreatDoor.M
namespace MOf
noncomputable def E : Env := { ({ base with C := callsOf [(66, NWord.orc), (65, MWhole.orc)] }) with nt := 14, own := [], keep := fun k => (tlook [] k).getD [], cut := tlook [] }
noncomputable def cod : Code := (Go.Proofs.Tryz.f24.body).getD .skip
theorem nok : namesOk E cod = true := by kernel_rfl
theorem start (a : Int) : evalFn E Go.Proofs.Tryz.f24 cod [D.s (S.sc (Value.int IntKind.i64 a))] = bcase (decide (a < (0 : Int))) (gif ((0 : Int) ≤ IntKind.u64.wrap ((0 : Int) - IntKind.u64.wrap a) ∧ IntKind.u64.wrap ((0 : Int) - IntKind.u64.wrap a) < (18446744073709551616 : Int)) (gif (M6.Nrm (M6.dg (IntKind.u64.wrap ((0 : Int) - IntKind.u64.wrap a)).toNat) ∧ (M6.dg (IntKind.u64.wrap ((0 : Int) - IntKind.u64.wrap a)).toNat).length ≤ (1099511627776 : Nat)) (some [D.agg [S.sc (Value.bool (isNeg (zs true (M6.val (M6.dg (IntKind.u64.wrap ((0 : Int) - IntKind.u64.wrap a)).toNat))))), S.ints IntKind.u64 (M6.dg (zs true (M6.val (M6.dg (IntKind.u64.wrap ((0 : Int) - IntKind.u64.wrap a)).toNat))).natAbs)]]))) (gif ((0 : Int) ≤ IntKind.u64.wrap a ∧ IntKind.u64.wrap a < (18446744073709551616 : Int)) (gif (M6.Nrm (M6.dg (IntKind.u64.wrap a).toNat) ∧ (M6.dg (IntKind.u64.wrap a).toNat).length ≤ (1099511627776 : Nat)) (some [D.agg [S.sc (Value.bool (isNeg (zs false (M6.val (M6.dg (IntKind.u64.wrap a).toNat))))), S.ints IntKind.u64 (M6.dg (zs false (M6.val (M6.dg (IntKind.u64.wrap a).toNat))).natAbs)]]))) := (evalFn_J rfl nok _).trans (by kernel_rfl)
-- stuck: 0
end MOf
namespace MOf
noncomputable def sp (a : Int) : Prop × List D := (-9223372036854775808 ≤ a ∧ a < 9223372036854775808, [wD a])
theorem spec (a : Int) (h : (sp a).1) : evalFn E Tryz.f24 cod [(pN .i64).put a] = some (sp a).2 := by
  obtain ⟨h1, h2⟩ := h
  refine (start a).trans ?_
  show _ = some [wD a]
  by_cases hn : a < 0
  · have w1 : IntKind.u64.wrap (0 - IntKind.u64.wrap a) = ((a.natAbs : Nat) : Int) := by rw [wrap_u64_eq, wrap_u64_eq]; omega
    have hl := len6_bl (n := a.natAbs) (k := 1) (bl_le.2 (by omega))
    rw [bD_pos hn, w1, Int.toNat_natCast, gP ⟨by omega, by omega⟩, gP ⟨M6.nrm_dg _, by omega⟩, M6.val_dg]
    have : zs true a.natAbs = a := by show -((a.natAbs : Nat) : Int) = a; omega
    rw [this]
    rfl
  · have w1 : IntKind.u64.wrap a = ((a.natAbs : Nat) : Int) := by rw [wrap_u64_eq]; omega
    have hl := len6_bl (n := a.natAbs) (k := 1) (bl_le.2 (by omega))
    rw [bD_neg hn, w1, Int.toNat_natCast, gP ⟨by omega, by omega⟩, gP ⟨M6.nrm_dg _, by omega⟩, M6.val_dg]
    have : zs false a.natAbs = a := by show ((a.natAbs : Nat) : Int) = a; omega
    rw [this]
    rfl

noncomputable def orc : Orc := orc1 (pN .i64) sp
theorem fnok : FnOk Tryz.prog E 24 Tryz.f24 cod := fnOk ty_ok mixed (callsOk_of _ rfl (orcs_cons NWord.ok (orcs_cons MWhole.ok orcs_nil)) (ext_ok)) Tryz.func24 rfl rfl rfl
theorem ok : OrcOk Tryz.prog base.glob 24 orc := fnok.ok1 rfl spec
end MOf
end Go.Proofs.YtfebndgmmekmgaaGreatDoor.W

/- gnomon/turn.dyad -/
namespace Go.Proofs.YtfebndgmmekmgaaGreatDoor.W
open Go Go.Proofs.YtfebndgmmekmgaaGreatDoor.AI Go.Proofs.YtfebndgmmekmgaaGreatDoor.M
namespace UDyad
noncomputable def E : Env := { ({ base with C := callsOf [(24, MOf.orc), (57, DMake.orc)] }) with nt := 15, own := [], keep := fun k => (tlook [] k).getD [], cut := tlook [] }
noncomputable def cod : Code := (Go.Proofs.Tryz.f32.body).getD .skip
theorem nok : namesOk E cod = true := by kernel_rfl
theorem start (a : Int) (b : Int) : evalFn E Go.Proofs.Tryz.f32 cod [D.s (S.sc (Value.int IntKind.i64 a)), D.s (S.sc (Value.int IntKind.i64 b))] = gif ((-9223372036854775808 : Int) ≤ a ∧ a < (9223372036854775808 : Int)) (gif (Wok (isNeg a, M6.dg a.natAbs) ∧ (-9223372036854775808 : Int) ≤ b ∧ b < (9223372036854775808 : Int)) (some [D.agg [S.sc (Value.bool (isNeg (bif inD (wv (isNeg a, M6.dg a.natAbs)) b then nrmD (wv (isNeg a, M6.dg a.natAbs)) b else ((0 : Int), (0 : Int))).fst)), S.ints IntKind.u64 (M6.dg (bif inD (wv (isNeg a, M6.dg a.natAbs)) b then nrmD (wv (isNeg a, M6.dg a.natAbs)) b else ((0 : Int), (0 : Int))).fst.natAbs), S.sc (Value.int IntKind.i64 (bif inD (wv (isNeg a, M6.dg a.natAbs)) b then nrmD (wv (isNeg a, M6.dg a.natAbs)) b else ((0 : Int), (0 : Int))).snd)]])) := (evalFn_J rfl nok _).trans (by kernel_rfl)
-- stuck: 0
end UDyad
namespace UDyad
noncomputable def sp (m e : Int) : Prop × List D := ((-9223372036854775808 ≤ m ∧ m < 9223372036854775808) ∧ -9223372036854775808 ≤ e ∧ e < 9223372036854775808, [dD (bif inD m e then nrmD m e else (0, 0))])
theorem spec (m e : Int) (h : (sp m e).1) : evalFn E Tryz.f32 cod [(pN .i64).put m, (pN .i64).put e] = some (sp m e).2 := by
  obtain ⟨h1, h2⟩ := h
  refine (start m e).trans ?_
  have hb : bl m.natAbs ≤ 64 := bl_le.2 (by omega)
  rw [gP h1, gP ⟨wok_wD (by omega), h2⟩, wv_wD]
  rfl

noncomputable def orc : Orc := orc2 (pN .i64) (pN .i64) sp
theorem fnok : FnOk Tryz.prog E 32 Tryz.f32 cod := fnOk ty_ok mixed (callsOk_of _ rfl (orcs_cons MOf.ok (orcs_cons DMake.ok orcs_nil)) (ext_ok)) Tryz.func32 rfl rfl rfl
theorem ok : OrcOk Tryz.prog base.glob 32 orc := fnok.ok2 rfl spec
end UDyad
end Go.Proofs.YtfebndgmmekmgaaGreatDoor.W

/- gnomon/dyadic.DownAt -/
namespace Go.Proofs.YtfebndgmmekmgaaGreatDoor.W
open Go Go.Proofs.YtfebndgmmekmgaaGreatDoor.AI Go.Proofs.YtfebndgmmekmgaaGreatDoor.M
namespace DDownAt
noncomputable def E : Env := { ({ base with C := callsOf [(76, DGrid.orc)] }) with nt := 11, own := [8], keep := fun k => (tlook [] k).getD [], cut := tlook [] }
noncomputable def cod : Code := (Go.Proofs.Tryz.f33.body).getD .skip
theorem nok : namesOk E cod = true := by kernel_rfl
theorem start (a1 : Bool) (a2 : List Int) (a3 : Int) (b : Int) : evalFn E Go.Proofs.Tryz.f33 cod [D.agg [S.sc (Value.bool a1), S.ints IntKind.u64 a2, S.sc (Value.int IntKind.i64 a3)], D.s (S.sc (Value.int IntKind.i64 b))] = gif (DyOk (a1, a2, a3) ∧ ((-4611686018427387904 : Int) ≤ b ∧ b < (4611686018427387904 : Int)) ∧ false = false) (some [D.agg [S.sc (Value.bool (isNeg (bif DGrid.gridOk (dv (a1, a2, a3)) b then DGrid.gridD (dv (a1, a2, a3)) b else ((0 : Int), (0 : Int))).fst)), S.ints IntKind.u64 (M6.dg (bif DGrid.gridOk (dv (a1, a2, a3)) b then DGrid.gridD (dv (a1, a2, a3)) b else ((0 : Int), (0 : Int))).fst.natAbs), S.sc (Value.int IntKind.i64 (bif DGrid.gridOk (dv (a1, a2, a3)) b then DGrid.gridD (dv (a1, a2, a3)) b else ((0 : Int), (0 : Int))).snd)], D.s (S.sc (Value.int IntKind.i64 (bif DGrid.gridOk (dv (a1, a2, a3)) b then (0 : Int) else (5 : Int))))]) := (evalFn_J rfl nok _).trans (by kernel_rfl)
-- stuck: 0
end DDownAt
namespace DDownAt
noncomputable def sp (x : Bool × List Int × Int) (b : Int) : Prop × List D := (DyOk x ∧ -4611686018427387904 ≤ b ∧ b < 4611686018427387904, dE (DGrid.gridOk (dv x) b) (DGrid.gridD (dv x) b))
theorem spec (x : Bool × List Int × Int) (b : Int) (h : (sp x b).1) : evalFn E Tryz.f33 cod [(pG (.pair sB (.pair (sI .u64) (sN .i64)))).put x, (pN .i64).put b] = some (sp x b).2 :=
  (start x.1 x.2.1 x.2.2 b).trans (gP ⟨h.1, h.2, rfl⟩)

noncomputable def orc : Orc := orc2 (pG (.pair sB (.pair (sI .u64) (sN .i64)))) (pN .i64) sp
theorem fnok : FnOk Tryz.prog E 33 Tryz.f33 cod := fnOk ty_ok mixed (callsOk_of _ rfl (orcs_cons DGrid.ok orcs_nil) (ext_ok)) Tryz.func33 rfl rfl rfl
theorem ok : OrcOk Tryz.prog base.glob 33 orc := fnok.ok2 rfl spec
end DDownAt
end Go.Proofs.YtfebndgmmekmgaaGreatDoor.W

/- gnomon/dyadic.Neg -/
namespace Go.Proofs.YtfebndgmmekmgaaGreatDoor.W
open Go Go.Proofs.YtfebndgmmekmgaaGreatDoor.AI Go.Proofs.YtfebndgmmekmgaaGreatDoor.M
namespace DNeg
noncomputable def E : Env := { ({ base with C := callsOf [(53, DForm.orc), (55, DTwin.orc), (54, DNought.orc)] }) with nt := 22, own := [], keep := fun k => (tlook [] k).getD [], cut := tlook [] }
noncomputable def cod : Code := (Go.Proofs.Tryz.f20.body).getD .skip
theorem nok : namesOk E cod = true := by kernel_rfl
theorem start (a1 : Bool) (a2 : List Int) (a3 : Int) : evalFn E Go.Proofs.Tryz.f20 cod [D.agg [S.sc (Value.bool a1), S.ints IntKind.u64 a2, S.sc (Value.int IntKind.i64 a3)]] = gif (DyOk (a1, a2, a3)) (gif ((a2, a3).fst.length ≤ (1099511627776 : Nat)) (bcase (!(a1, a2, a3).fst) (gif True (some [D.agg [S.sc (Value.bool !(↑((a2, a3).fst, (a2, a3).snd).fst.length : Int) == (0 : Int)), S.ints IntKind.u64 (a2, a3).fst, S.sc (Value.int IntKind.i64 (a2, a3).snd)], D.s (S.sc (Value.int IntKind.i64 (0 : Int)))])) (some [D.agg [S.sc (Value.bool false), S.ints IntKind.u64 (a2, a3).fst, S.sc (Value.int IntKind.i64 (a2, a3).snd)], D.s (S.sc (Value.int IntKind.i64 (0 : Int)))]))) := (evalFn_J rfl nok _).trans (by kernel_rfl)
-- stuck: 0
end DNeg
namespace DNeg
noncomputable def sp (x : Bool × List Int × Int) : Prop × List D := (DyOk x, dE true (-(dv x).1, (dv x).2))
theorem spec (x : Bool × List Int × Int) (h : (sp x).1) : evalFn E Tryz.f20 cod [(pG (.pair sB (.pair (sI .u64) (sN .i64)))).put x] = some (sp x).2 := by
  have h : DyOk x := h
  have hl := h.len
  have hc := h.wok.cells
  refine (start x.1 x.2.1 x.2.2).trans ?_
  obtain ⟨b, a, e⟩ := x
  dsimp only at *
  unfold sp
  dsimp only
  rw [gP h, gP (by omega)]
  have hz := M6.len_zero h.nrm
  have ha := wv_abs (b, a)
  dsimp only at ha hz
  have e1 : dE true (-(dv (b, a, e)).1, (dv (b, a, e)).2) = [D.agg [.sc (.bool (isNeg (-(wv (b, a))))), .ints .u64 a, .sc (.int .i64 e)], .s (.sc (.int .i64 0))] := by
    show [M.dD (-(wv (b, a)), e), _] = _
    unfold M.dD
    dsimp only
    rw [Int.natAbs_neg, hc.2]
    rfl
  rw [e1]
  cases b with
  | true =>
    have : wv (true, a) = -(M6.val a : Int) := wv_neg (x := (true, a)) rfl
    rw [Bool.not_true, bF, isNeg_false.2 (by omega)]
  | false =>
    have hw : wv (false, a) = (M6.val a : Int) := wv_pos (x := (false, a)) rfl
    rw [Bool.not_false, bT, gP trivial]
    by_cases h0 : a.length = 0
    · rw [beq_iff_eq.2 (show (a.length : Int) = 0 by omega), isNeg_false.2 (by have := hz.1 h0; omega)]
      rfl
    · rw [beq_eq_false_iff_ne.2 (show (a.length : Int) ≠ 0 by omega), isNeg_iff.2 (by have : M6.val a ≠ 0 := fun h => h0 (hz.2 h); omega)]
      rfl

noncomputable def orc : Orc := orc1 (pG (.pair sB (.pair (sI .u64) (sN .i64)))) sp
theorem fnok : FnOk Tryz.prog E 20 Tryz.f20 cod := fnOk ty_ok mixed (callsOk_of _ rfl (orcs_cons DForm.ok (orcs_cons DTwin.ok (orcs_cons DNought.ok orcs_nil))) (ext_ok)) Tryz.func20 rfl rfl rfl
theorem ok : OrcOk Tryz.prog base.glob 20 orc := fnok.ok1 rfl spec
end DNeg
end Go.Proofs.YtfebndgmmekmgaaGreatDoor.W

/- gnomon/dyadic.Sub -/
namespace Go.Proofs.YtfebndgmmekmgaaGreatDoor.W
open Go Go.Proofs.YtfebndgmmekmgaaGreatDoor.AI Go.Proofs.YtfebndgmmekmgaaGreatDoor.M
namespace DSub
noncomputable def E : Env := { ({ base with C := callsOf [(20, DNeg.orc), (31, DAdd.orc)] }) with nt := 22, own := [10, 19], keep := fun k => (tlook [] k).getD [], cut := tlook [] }
noncomputable def cod : Code := (Go.Proofs.Tryz.f16.body).getD .skip
theorem nok : namesOk E cod = true := by kernel_rfl
theorem start (a1 : Bool) (a2 : List Int) (a3 : Int) (b1 : Bool) (b2 : List Int) (b3 : Int) : evalFn E Go.Proofs.Tryz.f16 cod [D.agg [S.sc (Value.bool a1), S.ints IntKind.u64 a2, S.sc (Value.int IntKind.i64 a3)], D.agg [S.sc (Value.bool b1), S.ints IntKind.u64 b2, S.sc (Value.int IntKind.i64 b3)]] = gif (DyOk (b1, b2, b3)) (gif (DyOk (a1, a2, a3) ∧ DyOk (isNeg (-(dv (b1, b2, b3)).fst, (dv (b1, b2, b3)).snd).fst, M6.dg (-(dv (b1, b2, b3)).fst, (dv (b1, b2, b3)).snd).fst.natAbs, (-(dv (b1, b2, b3)).fst, (dv (b1, b2, b3)).snd).snd)) (some [D.agg [S.sc (Value.bool (isNeg (bif DAdd.addOk (dv (a1, a2, a3)) (dv (isNeg (bif true then (-(dv (b1, b2, b3)).fst, (dv (b1, b2, b3)).snd) else ((0 : Int), (0 : Int))).fst, M6.dg (bif true then (-(dv (b1, b2, b3)).fst, (dv (b1, b2, b3)).snd) else ((0 : Int), (0 : Int))).fst.natAbs, (bif true then (-(dv (b1, b2, b3)).fst, (dv (b1, b2, b3)).snd) else ((0 : Int), (0 : Int))).snd)) then DAdd.addD (dv (a1, a2, a3)) (dv (isNeg (bif true then (-(dv (b1, b2, b3)).fst, (dv (b1, b2, b3)).snd) else ((0 : Int), (0 : Int))).fst, M6.dg (bif true then (-(dv (b1, b2, b3)).fst, (dv (b1, b2, b3)).snd) else ((0 : Int), (0 : Int))).fst.natAbs, (bif true then (-(dv (b1, b2, b3)).fst, (dv (b1, b2, b3)).snd) else ((0 : Int), (0 : Int))).snd)) else ((0 : Int), (0 : Int))).fst)), S.ints IntKind.u64 (M6.dg (bif DAdd.addOk (dv (a1, a2, a3)) (dv (isNeg (bif true then (-(dv (b1, b2, b3)).fst, (dv (b1, b2, b3)).snd) else ((0 : Int), (0 : Int))).fst, M6.dg (bif true then (-(dv (b1, b2, b3)).fst, (dv (b1, b2, b3)).snd) else ((0 : Int), (0 : Int))).fst.natAbs, (bif true then (-(dv (b1, b2, b3)).fst, (dv (b1, b2, b3)).snd) else ((0 : Int), (0 : Int))).snd)) then DAdd.addD (dv (a1, a2, a3)) (dv (isNeg (bif true then (-(dv (b1, b2, b3)).fst, (dv (b1, b2, b3)).snd) else ((0 : Int), (0 : Int))).fst, M6.dg (bif true then (-(dv (b1, b2, b3)).fst, (dv (b1, b2, b3)).snd) else ((0 : Int), (0 : Int))).fst.natAbs, (bif true then (-(dv (b1, b2, b3)).fst, (dv (b1, b2, b3)).snd) else ((0 : Int), (0 : Int))).snd)) else ((0 : Int), (0 : Int))).fst.natAbs), S.sc (Value.int IntKind.i64 (bif DAdd.addOk (dv (a1, a2, a3)) (dv (isNeg (bif true then (-(dv (b1, b2, b3)).fst, (dv (b1, b2, b3)).snd) else ((0 : Int), (0 : Int))).fst, M6.dg (bif true then (-(dv (b1, b2, b3)).fst, (dv (b1, b2, b3)).snd) else ((0 : Int), (0 : Int))).fst.natAbs, (bif true then (-(dv (b1, b2, b3)).fst, (dv (b1, b2, b3)).snd) else ((0 : Int), (0 : Int))).snd)) then DAdd.addD (dv (a1, a2, a3)) (dv (isNeg (bif true then (-(dv (b1, b2, b3)).fst, (dv (b1, b2, b3)).snd) else ((0 : Int), (0 : Int))).fst, M6.dg (bif true then (-(dv (b1, b2, b3)).fst, (dv (b1, b2, b3)).snd) else ((0 : Int), (0 : Int))).fst.natAbs, (bif true then (-(dv (b1, b2, b3)).fst, (dv (b1, b2, b3)).snd) else ((0 : Int), (0 : Int))).snd)) else ((0 : Int), (0 : Int))).snd)], D.s (S.sc (Value.int IntKind.i64 (bif DAdd.addOk (dv (a1, a2, a3)) (dv (isNeg (bif true then (-(dv (b1, b2, b3)).fst, (dv (b1, b2, b3)).snd) else ((0 : Int), (0 : Int))).fst, M6.dg (bif true then (-(dv (b1, b2, b3)).fst, (dv (b1, b2, b3)).snd) else ((0 : Int), (0 : Int))).fst.natAbs, (bif true then (-(dv (b1, b2, b3)).fst, (dv (b1, b2, b3)).snd) else ((0 : Int), (0 : Int))).snd)) then (0 : Int) else (5 : Int))))])) := (evalFn_J rfl nok _).trans (by kernel_rfl)
-- stuck: 0
end DSub
namespace DSub
noncomputable def sp (x y : Bool × List Int × Int) : Prop × List D := (DyOk x ∧ DyOk y, dE (DAdd.addOk (dv x) (-(dv y).1, (dv y).2)) (DAdd.addD (dv x) (-(dv y).1, (dv y).2)))
theorem spec (x y : Bool × List Int × Int) (h : (sp x y).1) : evalFn E Tryz.f16 cod [(pG (.pair sB (.pair (sI .u64) (sN .i64)))).put x, (pG (.pair sB (.pair (sI .u64) (sN .i64)))).put y] = some (sp x y).2 := by
  obtain ⟨hx, hy⟩ := h
  refine (start x.1 x.2.1 x.2.2 y.1 y.2.1 y.2.2).trans ?_
  have hn := dyok_of hy.pin.neg
  have hv := dv_cells (-(dv y).1, (dv y).2)
  rw [gP hy, gP ⟨hx, hn⟩]
  dsimp only [cond_true] at hv ⊢
  rw [hv]
  rfl

noncomputable def orc : Orc := orc2 (pG (.pair sB (.pair (sI .u64) (sN .i64)))) (pG (.pair sB (.pair (sI .u64) (sN .i64)))) sp
theorem fnok : FnOk Tryz.prog E 16 Tryz.f16 cod := fnOk ty_ok mixed (callsOk_of _ rfl (orcs_cons DNeg.ok (orcs_cons DAdd.ok orcs_nil)) (ext_ok)) Tryz.func16 rfl rfl rfl
theorem ok : OrcOk Tryz.prog base.glob 16 orc := fnok.ok2 rfl spec
end DSub
end Go.Proofs.YtfebndgmmekmgaaGreatDoor.W

/- gnomon/nat.Norm -/
namespace Go.Proofs.YtfebndgmmekmgaaGreatDoor.W
open Go Go.Proofs.YtfebndgmmekmgaaGreatDoor.AI Go.Proofs.YtfebndgmmekmgaaGreatDoor.M
namespace NNorm
noncomputable def E : Env := { ({ base with C := callsOf [(147, NTrim.orc)] }) with nt := 18, own := [], keep := fun k => (tlook [] k).getD [], cut := tlook [] }
noncomputable def cod : Code := (Go.Proofs.Tryz.f107.body).getD .skip
theorem nok : namesOk E cod = true := by kernel_rfl
theorem start (a : List Int) : evalFn E Go.Proofs.Tryz.f107 cod [D.s (S.ints IntKind.u64 a)] = gif (M6.Dig a ∧ a.length ≤ (1099511627776 : Nat)) (bcase (decide ((8192 : Int) < (↑(M6.dg (M6.val a)).length : Int))) (some [D.s (S.sc (Value.slice none (0 : Nat) (0 : Nat))), D.s (S.sc (Value.int IntKind.i64 (5 : Int)))]) (if (0 : Int) ≤ (↑(M6.dg (M6.val a)).length : Int) ∧ (↑(M6.dg (M6.val a)).length : Int) ≤ (↑(M6.dg (M6.val a)).length : Int) ∧ (↑(M6.dg (M6.val a)).length : Int) ≤ (8796093022208 : Int) then some [D.own (24 : Nat) IntKind.u64 (List.take (↑(M6.dg (M6.val a)).length : Int).toNat (M6.dg (M6.val a)) ++ List.drop (min (M6.dg (M6.val a)).length (↑(M6.dg (M6.val a)).length : Int).toNat) (List.replicate (↑(M6.dg (M6.val a)).length : Int).toNat (0 : Int))), D.s (S.sc (Value.int IntKind.i64 (0 : Int)))] else none)) := (evalFn_J rfl nok _).trans (by kernel_rfl)
-- stuck: 0
end NNorm
namespace NNorm
noncomputable def sp (a : List Int) : Prop × List D := (M6.Dig a ∧ a.length ≤ 1099511627776, [.s (.ints .u64 (bif NTold.okN (M6.val a) then M6.dg (M6.val a) else [])), .s (.sc (.int .i64 (bif NTold.okN (M6.val a) then 0 else 5)))])
theorem spec (a : List Int) (h : (sp a).1) : ∃ rs, evalFn E Tryz.f107 cod [(pI .u64).put a] = some rs ∧ RsLe rs (sp a).2 := by
  have hl := M6.len_val h.1
  have h2 := h.2
  have e := (start a).trans (gP h)
  unfold sp NTold.okN
  simp only
  generalize M6.dg (M6.val a) = d at *
  by_cases hc : d.length ≤ 8192
  · rw [bD_neg (by omega), if_pos ⟨by omega, by omega, by omega⟩] at e
    rw [decide_eq_true hc]
    refine ⟨_, e, .cons ?_ (RsLe.refl _)⟩
    simp only [Int.toNat_natCast, List.take_length, Nat.min_self, cond_true]
    have : List.drop d.length (List.replicate d.length (0 : Int)) = [] := List.drop_eq_nil_of_le (by simp)
    rw [this, List.append_nil]
    exact RLe.own _ _ _
  · rw [bD_pos (by omega)] at e
    rw [decide_eq_false hc]
    exact ⟨_, e, .cons (RLe.nil _) (RsLe.refl _)⟩

noncomputable def orc : Orc := orc1 (pI .u64) sp
theorem fnok : FnOk Tryz.prog E 107 Tryz.f107 cod := fnOk ty_ok mixed (callsOk_of _ rfl (orcs_cons NTrim.ok orcs_nil) (ext_ok)) Tryz.func107 rfl rfl rfl
theorem ok : OrcOk Tryz.prog base.glob 107 orc := fnok.wk1 rfl spec
end NNorm
end Go.Proofs.YtfebndgmmekmgaaGreatDoor.W

/- math/bits.LeadingZeros64 -/
namespace Go.Proofs.YtfebndgmmekmgaaGreatDoor.W
open Go Go.Proofs.YtfebndgmmekmgaaGreatDoor.AI Go.Proofs.YtfebndgmmekmgaaGreatDoor.M
namespace Lz64
noncomputable def E : Env := { ({ base with C := callsOf [(146, Len64.orc)] }) with nt := 6, own := [], keep := fun k => (tlook [] k).getD [], cut := tlook [] }
noncomputable def cod : Code := (Go.Proofs.Tryz.f109.body).getD .skip
theorem nok : namesOk E cod = true := by kernel_rfl
theorem start (a : Int) : evalFn E Go.Proofs.Tryz.f109 cod [D.s (S.sc (Value.int IntKind.u64 a))] = gif ((0 : Int) ≤ a ∧ a < (18446744073709551616 : Int)) (some [D.s (S.sc (Value.int IntKind.i64 (IntKind.i64.wrap ((64 : Int) - (↑(bl a.toNat) : Int)))))]) := (evalFn_J rfl nok _).trans (by kernel_rfl)
-- stuck: 0
end Lz64
namespace Lz64
noncomputable def sp (a : Int) : Prop × List D := (0 ≤ a ∧ a < 18446744073709551616, [.s (.sc (.int .i64 (64 - ((bl a.toNat : Nat) : Int))))])
theorem spec (a : Int) (h : (sp a).1) : evalFn E Tryz.f109 cod [(pN .u64).put a] = some (sp a).2 := by
  refine (start a).trans ((gP h).trans ?_)
  obtain ⟨h1, h2⟩ := h
  have : bl a.toNat ≤ 64 := bl_le.2 (by omega)
  rw [wrap_i64 (by omega) (by omega)]
  rfl

noncomputable def orc : Orc := orc1 (pN .u64) sp
theorem fnok : FnOk Tryz.prog E 109 Tryz.f109 cod := fnOk ty_ok mixed (callsOk_of _ rfl (orcs_cons Len64.ok orcs_nil) (ext_ok)) Tryz.func109 rfl rfl rfl
theorem ok : OrcOk Tryz.prog base.glob 109 orc := fnok.ok1 rfl spec
end Lz64
end Go.Proofs.YtfebndgmmekmgaaGreatDoor.W

/- math/bits.Div64 -/
namespace Go.Proofs.YtfebndgmmekmgaaGreatDoor.W
open Go Go.Proofs.YtfebndgmmekmgaaGreatDoor.AI Go.Proofs.YtfebndgmmekmgaaGreatDoor.M
namespace Div64
noncomputable def E : Env := { ({ base with C := callsOf [(109, Lz64.orc)] }) with nt := 135, own := [], keep := fun k => (tlook [(24, [2, 8, 9, 10, 14, 15, 16, 17, 18]), (17, [2, 8, 9, 10, 11, 13, 14, 15, 16])] k).getD [], cut := tlook [(3, [0, 1, 2]), (5, [0, 1, 2]), (18, [2, 8, 9, 10, 11, 13, 14, 15, 16]), (21, [2, 8, 9, 10, 11, 13, 14, 15]), (25, [2, 8, 9, 10, 14, 15, 16, 17, 18]), (28, [2, 8, 14, 15, 17, 18])] }
noncomputable def cod : Code := (Go.Proofs.Tryz.f148.body).getD .skip
theorem nok : namesOk E cod = true := by kernel_rfl
noncomputable def J3 (x0 : Int) (x1 : Int) (x2 : Int) : Option (List D) := ctO E Go.Proofs.Tryz.f148 cod 3 [(A.v (V.one (L.s (S.sc (Value.int IntKind.u64 x0)))), none), (A.v (V.one (L.s (S.sc (Value.int IntKind.u64 x1)))), none), (A.v (V.one (L.s (S.sc (Value.int IntKind.u64 x2)))), none)]
noncomputable def J5 (x0 : Int) (x1 : Int) (x2 : Int) : Option (List D) := ctO E Go.Proofs.Tryz.f148 cod 5 [(A.v (V.one (L.s (S.sc (Value.int IntKind.u64 x0)))), none), (A.v (V.one (L.s (S.sc (Value.int IntKind.u64 x1)))), none), (A.v (V.one (L.s (S.sc (Value.int IntKind.u64 x2)))), none)]
noncomputable def L17 (x0 : Int) (x1 : Int) (x2 : Int) (x3 : Int) (x4 : Int) (x5 : Int) (x6 : Int) (x7 : Int) (x8 : Int) : Option (List D) := lpO E Go.Proofs.Tryz.f148 cod 17 [(A.v (V.one (L.s (S.sc (Value.int IntKind.u64 x0)))), none), (A.v (V.one (L.s (S.sc (Value.int IntKind.u64 x1)))), none), (A.v (V.one (L.s (S.sc (Value.int IntKind.u64 x2)))), none), (A.v (V.one (L.s (S.sc (Value.int IntKind.u64 x3)))), none), (A.v (V.one (L.s (S.sc (Value.int IntKind.u64 x4)))), none), (A.v (V.one (L.s (S.sc (Value.int IntKind.u64 x5)))), none), (A.v (V.one (L.s (S.sc (Value.int IntKind.u64 x6)))), none), (A.v (V.one (L.s (S.sc (Value.int IntKind.u64 x7)))), none), (A.v (V.one (L.s (S.sc (Value.int IntKind.u64 x8)))), none)]
noncomputable def J18 (x0 : Int) (x1 : Int) (x2 : Int) (x3 : Int) (x4 : Int) (x5 : Int) (x6 : Int) (x7 : Int) (x8 : Int) : Option (List D) := ctO E Go.Proofs.Tryz.f148 cod 18 [(A.v (V.one (L.s (S.sc (Value.int IntKind.u64 x0)))), none), (A.v (V.one (L.s (S.sc (Value.int IntKind.u64 x1)))), none), (A.v (V.one (L.s (S.sc (Value.int IntKind.u64 x2)))), none), (A.v (V.one (L.s (S.sc (Value.int IntKind.u64 x3)))), none), (A.v (V.one (L.s (S.sc (Value.int IntKind.u64 x4)))), none), (A.v (V.one (L.s (S.sc (Value.int IntKind.u64 x5)))), none), (A.v (V.one (L.s (S.sc (Value.int IntKind.u64 x6)))), none), (A.v (V.one (L.s (S.sc (Value.int IntKind.u64 x7)))), none), (A.v (V.one (L.s (S.sc (Value.int IntKind.u64 x8)))), none)]
noncomputable def J21 (x0 : Int) (x1 : Int) (x2 : Int) (x3 : Int) (x4 : Int) (x5 : Int) (x6 : Int) (x7 : Int) : Option (List D) := ctO E Go.Proofs.Tryz.f148 cod 21 [(A.v (V.one (L.s (S.sc (Value.int IntKind.u64 x0)))), none), (A.v (V.one (L.s (S.sc (Value.int IntKind.u64 x1)))), none), (A.v (V.one (L.s (S.sc (Value.int IntKind.u64 x2)))), none), (A.v (V.one (L.s (S.sc (Value.int IntKind.u64 x3)))), none), (A.v (V.one (L.s (S.sc (Value.int IntKind.u64 x4)))), none), (A.v (V.one (L.s (S.sc (Value.int IntKind.u64 x5)))), none), (A.v (V.one (L.s (S.sc (Value.int IntKind.u64 x6)))), none), (A.v (V.one (L.s (S.sc (Value.int IntKind.u64 x7)))), none)]
noncomputable def L24 (x0 : Int) (x1 : Int) (x2 : Int) (x3 : Int) (x4 : Int) (x5 : Int) (x6 : Int) (x7 : Int) (x8 : Int) : Option (List D) := lpO E Go.Proofs.Tryz.f148 cod 24 [(A.v (V.one (L.s (S.sc (Value.int IntKind.u64 x0)))), none), (A.v (V.one (L.s (S.sc (Value.int IntKind.u64 x1)))), none), (A.v (V.one (L.s (S.sc (Value.int IntKind.u64 x2)))), none), (A.v (V.one (L.s (S.sc (Value.int IntKind.u64 x3)))), none), (A.v (V.one (L.s (S.sc (Value.int IntKind.u64 x4)))), none), (A.v (V.one (L.s (S.sc (Value.int IntKind.u64 x5)))), none), (A.v (V.one (L.s (S.sc (Value.int IntKind.u64 x6)))), none), (A.v (V.one (L.s (S.sc (Value.int IntKind.u64 x7)))), none), (A.v (V.one (L.s (S.sc (Value.int IntKind.u64 x8)))), none)]
noncomputable def J25 (x0 : Int) (x1 : Int) (x2 : Int) (x3 : Int) (x4 : Int) (x5 : Int) (x6 : Int) (x7 : Int) (x8 : Int) : Option (List D) := ctO E Go.Proofs.Tryz.f148 cod 25 [(A.v (V.one (L.s (S.sc (Value.int IntKind.u64 x0)))), none), (A.v (V.one (L.s (S.sc (Value.int IntKind.u64 x1)))), none), (A.v (V.one (L.s (S.sc (Value.int IntKind.u64 x2)))), none), (A.v (V.one (L.s (S.sc (Value.int IntKind.u64 x3)))), none), (A.v (V.one (L.s (S.sc (Value.int IntKind.u64 x4)))), none), (A.v (V.one (L.s (S.sc (Value.int IntKind.u64 x5)))), none), (A.v (V.one (L.s (S.sc (Value.int IntKind.u64 x6)))), none), (A.v (V.one (L.s (S.sc (Value.int IntKind.u64 x7)))), none), (A.v (V.one (L.s (S.sc (Value.int IntKind.u64 x8)))), none)]
noncomputable def J28 (x0 : Int) (x1 : Int) (x2 : Int) (x3 : Int) (x4 : Int) (x5 : Int) : Option (List D) := ctO E Go.Proofs.Tryz.f148 cod 28 [(A.v (V.one (L.s (S.sc (Value.int IntKind.u64 x0)))), none), (A.v (V.one (L.s (S.sc (Value.int IntKind.u64 x1)))), none), (A.v (V.one (L.s (S.sc (Value.int IntKind.u64 x2)))), none), (A.v (V.one (L.s (S.sc (Value.int IntKind.u64 x3)))), none), (A.v (V.one (L.s (S.sc (Value.int IntKind.u64 x4)))), none), (A.v (V.one (L.s (S.sc (Value.int IntKind.u64 x5)))), none)]
theorem start (a : Int) (b : Int) (c : Int) : evalFn E Go.Proofs.Tryz.f148 cod [D.s (S.sc (Value.int IntKind.u64 a)), D.s (S.sc (Value.int IntKind.u64 b)), D.s (S.sc (Value.int IntKind.u64 c))] = bcase (c == (0 : Int)) none (Div64.J3 a b c) := (evalFn_J rfl nok _).trans (by kernel_rfl)
theorem J3_eq (x0 : Int) (x1 : Int) (x2 : Int) : J3 x0 x1 x2 = bcase (decide (x2 ≤ x0)) none (Div64.J5 x0 x1 x2) := (cutAt_J rfl nok 3 _).trans (by kernel_rfl)
theorem J5_eq (x0 : Int) (x1 : Int) (x2 : Int) : J5 x0 x1 x2 = bcase (x0 == (0 : Int)) (if x2 = (0 : Int) then none else if x2 = (0 : Int) then none else some [D.s (S.sc (Value.int IntKind.u64 (IntKind.u64.wrap (x1.tdiv x2)))), D.s (S.sc (Value.int IntKind.u64 (x1.tmod x2)))]) (gif ((0 : Int) ≤ x2 ∧ x2 < (18446744073709551616 : Int)) (if IntKind.u64.wrap ((64 : Int) - (↑(bl x2.toNat) : Int)) < (0 : Int) then none else if IntKind.u64.wrap ((64 : Int) - (↑(bl x2.toNat) : Int)) < (0 : Int) then none else if IntKind.u64.wrap ((64 : Int) - IntKind.u64.wrap ((64 : Int) - (↑(bl x2.toNat) : Int))) < (0 : Int) then none else if IntKind.u64.wrap ((64 : Int) - (↑(bl x2.toNat) : Int)) < (0 : Int) then none else if IntKind.u64.wrap (x2 * (↑((2 : Nat) ^ min (IntKind.u64.wrap ((64 : Int) - (↑(bl x2.toNat) : Int))).toNat (64 : Nat)) : Int)) / (4294967296 : Int) = (0 : Int) then none else Div64.L17 (IntKind.u64.wrap (x2 * (↑((2 : Nat) ^ min (IntKind.u64.wrap ((64 : Int) - (↑(bl x2.toNat) : Int))).toNat (64 : Nat)) : Int))) (IntKind.u64.wrap ((64 : Int) - (↑(bl x2.toNat) : Int))) (IntKind.u64.wrap (x2 * (↑((2 : Nat) ^ min (IntKind.u64.wrap ((64 : Int) - (↑(bl x2.toNat) : Int))).toNat (64 : Nat)) : Int)) / (4294967296 : Int)) (bitsI BinOp.and IntKind.u64 (IntKind.u64.wrap (x2 * (↑((2 : Nat) ^ min (IntKind.u64.wrap ((64 : Int) - (↑(bl x2.toNat) : Int))).toNat (64 : Nat)) : Int))) (4294967295 : Int)) (bitsI BinOp.or IntKind.u64 (IntKind.u64.wrap (x0 * (↑((2 : Nat) ^ min (IntKind.u64.wrap ((64 : Int) - (↑(bl x2.toNat) : Int))).toNat (64 : Nat)) : Int))) (x1 / (↑((2 : Nat) ^ min (IntKind.u64.wrap ((64 : Int) - IntKind.u64.wrap ((64 : Int) - (↑(bl x2.toNat) : Int)))).toNat (64 : Nat)) : Int))) (IntKind.u64.wrap (x1 * (↑((2 : Nat) ^ min (IntKind.u64.wrap ((64 : Int) - (↑(bl x2.toNat) : Int))).toNat (64 : Nat)) : Int)) / (4294967296 : Int)) (bitsI BinOp.and IntKind.u64 (IntKind.u64.wrap (x1 * (↑((2 : Nat) ^ min (IntKind.u64.wrap ((64 : Int) - (↑(bl x2.toNat) : Int))).toNat (64 : Nat)) : Int))) (4294967295 : Int)) (IntKind.u64.wrap ((bitsI BinOp.or IntKind.u64 (IntKind.u64.wrap (x0 * (↑((2 : Nat) ^ min (IntKind.u64.wrap ((64 : Int) - (↑(bl x2.toNat) : Int))).toNat (64 : Nat)) : Int))) (x1 / (↑((2 : Nat) ^ min (IntKind.u64.wrap ((64 : Int) - IntKind.u64.wrap ((64 : Int) - (↑(bl x2.toNat) : Int)))).toNat (64 : Nat)) : Int))).tdiv (IntKind.u64.wrap (x2 * (↑((2 : Nat) ^ min (IntKind.u64.wrap ((64 : Int) - (↑(bl x2.toNat) : Int))).toNat (64 : Nat)) : Int)) / (4294967296 : Int)))) (IntKind.u64.wrap (bitsI BinOp.or IntKind.u64 (IntKind.u64.wrap (x0 * (↑((2 : Nat) ^ min (IntKind.u64.wrap ((64 : Int) - (↑(bl x2.toNat) : Int))).toNat (64 : Nat)) : Int))) (x1 / (↑((2 : Nat) ^ min (IntKind.u64.wrap ((64 : Int) - IntKind.u64.wrap ((64 : Int) - (↑(bl x2.toNat) : Int)))).toNat (64 : Nat)) : Int)) - IntKind.u64.wrap (IntKind.u64.wrap ((bitsI BinOp.or IntKind.u64 (IntKind.u64.wrap (x0 * (↑((2 : Nat) ^ min (IntKind.u64.wrap ((64 : Int) - (↑(bl x2.toNat) : Int))).toNat (64 : Nat)) : Int))) (x1 / (↑((2 : Nat) ^ min (IntKind.u64.wrap ((64 : Int) - IntKind.u64.wrap ((64 : Int) - (↑(bl x2.toNat) : Int)))).toNat (64 : Nat)) : Int))).tdiv (IntKind.u64.wrap (x2 * (↑((2 : Nat) ^ min (IntKind.u64.wrap ((64 : Int) - (↑(bl x2.toNat) : Int))).toNat (64 : Nat)) : Int)) / (4294967296 : Int))) * (IntKind.u64.wrap (x2 * (↑((2 : Nat) ^ min (IntKind.u64.wrap ((64 : Int) - (↑(bl x2.toNat) : Int))).toNat (64 : Nat)) : Int)) / (4294967296 : Int))))))) := (cutAt_J rfl nok 5 _).trans (by kernel_rfl)
theorem L17_eq (x0 : Int) (x1 : Int) (x2 : Int) (x3 : Int) (x4 : Int) (x5 : Int) (x6 : Int) (x7 : Int) (x8 : Int) : L17 x0 x1 x2 x3 x4 x5 x6 x7 x8 = bcase (decide ((4294967296 : Int) ≤ x7)) (Div64.J18 x0 x1 x2 x3 x4 x5 x6 x7 x8) (bcase (decide (IntKind.u64.wrap (IntKind.u64.wrap ((4294967296 : Int) * x8) + x5) < IntKind.u64.wrap (x7 * x3))) (Div64.J18 x0 x1 x2 x3 x4 x5 x6 x7 x8) (Div64.J21 x0 x1 x2 x3 x4 x5 x6 x7)) := (loopAt_J rfl nok 17 _).trans (by kernel_rfl)
theorem J18_eq (x0 : Int) (x1 : Int) (x2 : Int) (x3 : Int) (x4 : Int) (x5 : Int) (x6 : Int) (x7 : Int) (x8 : Int) : J18 x0 x1 x2 x3 x4 x5 x6 x7 x8 = bcase (decide ((4294967296 : Int) ≤ IntKind.u64.wrap (x8 + x2))) (Div64.J21 x0 x1 x2 x3 x4 x5 x6 (IntKind.u64.wrap (x7 - (1 : Int)))) (Div64.L17 x0 x1 x2 x3 x4 x5 x6 (IntKind.u64.wrap (x7 - (1 : Int))) (IntKind.u64.wrap (x8 + x2))) := (cutAt_J rfl nok 18 _).trans (by kernel_rfl)
theorem J21_eq (x0 : Int) (x1 : Int) (x2 : Int) (x3 : Int) (x4 : Int) (x5 : Int) (x6 : Int) (x7 : Int) : J21 x0 x1 x2 x3 x4 x5 x6 x7 = if x2 = (0 : Int) then none else Div64.L24 x0 x1 x2 x3 x6 x7 (IntKind.u64.wrap (IntKind.u64.wrap (IntKind.u64.wrap (IntKind.u64.wrap (x4 * (4294967296 : Int)) + x5) - IntKind.u64.wrap (x7 * x0)) - IntKind.u64.wrap (IntKind.u64.wrap ((IntKind.u64.wrap (IntKind.u64.wrap (IntKind.u64.wrap (x4 * (4294967296 : Int)) + x5) - IntKind.u64.wrap (x7 * x0))).tdiv x2) * x2))) (IntKind.u64.wrap (IntKind.u64.wrap (IntKind.u64.wrap (x4 * (4294967296 : Int)) + x5) - IntKind.u64.wrap (x7 * x0))) (IntKind.u64.wrap ((IntKind.u64.wrap (IntKind.u64.wrap (IntKind.u64.wrap (x4 * (4294967296 : Int)) + x5) - IntKind.u64.wrap (x7 * x0))).tdiv x2)) := (cutAt_J rfl nok 21 _).trans (by kernel_rfl)
theorem L24_eq (x0 : Int) (x1 : Int) (x2 : Int) (x3 : Int) (x4 : Int) (x5 : Int) (x6 : Int) (x7 : Int) (x8 : Int) : L24 x0 x1 x2 x3 x4 x5 x6 x7 x8 = bcase (decide ((4294967296 : Int) ≤ x8)) (Div64.J25 x0 x1 x2 x3 x4 x5 x6 x7 x8) (bcase (decide (IntKind.u64.wrap (IntKind.u64.wrap ((4294967296 : Int) * x6) + x4) < IntKind.u64.wrap (x8 * x3))) (Div64.J25 x0 x1 x2 x3 x4 x5 x6 x7 x8) (Div64.J28 x0 x1 x4 x5 x7 x8)) := (loopAt_J rfl nok 24 _).trans (by kernel_rfl)
theorem J25_eq (x0 : Int) (x1 : Int) (x2 : Int) (x3 : Int) (x4 : Int) (x5 : Int) (x6 : Int) (x7 : Int) (x8 : Int) : J25 x0 x1 x2 x3 x4 x5 x6 x7 x8 = bcase (decide ((4294967296 : Int) ≤ IntKind.u64.wrap (x6 + x2))) (Div64.J28 x0 x1 x4 x5 x7 (IntKind.u64.wrap (x8 - (1 : Int)))) (Div64.L24 x0 x1 x2 x3 x4 x5 (IntKind.u64.wrap (x6 + x2)) x7 (IntKind.u64.wrap (x8 - (1 : Int)))) := (cutAt_J rfl nok 25 _).trans (by kernel_rfl)
theorem J28_eq (x0 : Int) (x1 : Int) (x2 : Int) (x3 : Int) (x4 : Int) (x5 : Int) : J28 x0 x1 x2 x3 x4 x5 = if x1 < (0 : Int) then none else some [D.s (S.sc (Value.int IntKind.u64 (IntKind.u64.wrap (IntKind.u64.wrap (x3 * (4294967296 : Int)) + x5)))), D.s (S.sc (Value.int IntKind.u64 (IntKind.u64.wrap (IntKind.u64.wrap (IntKind.u64.wrap (x4 * (4294967296 : Int)) + x2) - IntKind.u64.wrap (x5 * x0)) / (↑((2 : Nat) ^ min x1.toNat (64 : Nat)) : Int))))] := (cutAt_J rfl nok 28 _).trans (by kernel_rfl)
-- stuck: 0
end Div64
namespace Div64
theorem wrapN {n : Nat} (h : n < 18446744073709551616) : IntKind.u64.wrap (n : Int) = (n : Int) := wrap_u64 (Int.natCast_nonneg _) (Int.ofNat_lt.2 h)
theorem loop {y1 y0 u u1 : Nat} (hy1 : 2147483648 ≤ y1) (hy1' : y1 < 4294967296) (hy0 : y0 < 4294967296) (hu : u < y1 * 4294967296 + y0) (hu1 : u1 < 4294967296)
    (Lf Jf : Int → Int → Option (List D)) (Kf : Int → Option (List D))
    (hL : ∀ q r, Lf q r = bcase (decide (4294967296 ≤ q)) (Jf q r) (bcase (decide (IntKind.u64.wrap (IntKind.u64.wrap (4294967296 * r) + (u1 : Int)) < IntKind.u64.wrap (q * (y0 : Int)))) (Jf q r) (Kf q)))
    (hJ : ∀ q r, Jf q r = bcase (decide (4294967296 ≤ IntKind.u64.wrap (r + (y1 : Int)))) (Kf (IntKind.u64.wrap (q - 1))) (Lf (IntKind.u64.wrap (q - 1)) (IntKind.u64.wrap (r + (y1 : Int))))) :
    ∀ (q r : Nat), u = q * y1 + r → r < 4294967296 → u * 4294967296 + u1 < (q + 1) * (y1 * 4294967296 + y0) →
      Lf (q : Int) (r : Int) = Kf (((u * 4294967296 + u1) / (y1 * 4294967296 + y0) : Nat) : Int) := by
  have hy : 0 < y1 * 4294967296 + y0 := by omega
  intro q
  induction q with
  | zero =>
    intro r h1 h2 h3
    have h0 : (u * 4294967296 + u1) / (y1 * 4294967296 + y0) = 0 := Nat.div_eq_of_lt (by omega)
    rw [hL, bD_neg (by omega), h0, show (((0 : Nat) : Int) * (y0 : Int)) = 0 from by omega, wrap_u64 (n := 0) (by omega) (by omega), bD_neg]
    rw [wrap_u64 (n := 4294967296 * (r : Int)) (by omega) (by omega), wrap_u64 (by omega) (by omega)]
    omega
  | succ q ih =>
    intro r h1 h2 h3
    have hq : q ≤ 4294967296 := by
      refine Nat.le_of_not_lt fun hc => ?_
      have : 4294967297 * y1 ≤ q * y1 := Nat.mul_le_mul_right _ hc
      rw [Nat.add_mul] at h1
      omega
    have w1 : IntKind.u64.wrap (((q + 1 : Nat) : Int) - 1) = (q : Int) := by rw [wrap_u64 (by omega) (by omega)]; omega
    have w2 : IntKind.u64.wrap ((r : Int) + (y1 : Int)) = ((r + y1 : Nat) : Int) := by rw [wrap_u64 (by omega) (by omega)]; omega
    have hle : (q + 1) * y0 ≤ 4294967297 * 4294967295 := Nat.mul_le_mul (by omega) (by omega)
    have w3 : IntKind.u64.wrap (((q + 1 : Nat) : Int) * (y0 : Int)) = (((q + 1) * y0 : Nat) : Int) := by
      rw [← Int.natCast_mul]
      exact wrap_u64 (by omega) (by omega)
    have w4 : IntKind.u64.wrap (IntKind.u64.wrap (4294967296 * (r : Int)) + (u1 : Int)) = ((4294967296 * r + u1 : Nat) : Int) := by
      rw [wrap_u64 (n := 4294967296 * (r : Int)) (by omega) (by omega), wrap_u64 (by omega) (by omega)]; omega
    have ex : (q + 1) * (y1 * 4294967296 + y0) = (q * y1 + y1) * 4294967296 + (q + 1) * y0 := by
      rw [Nat.mul_add, ← Nat.mul_assoc, Nat.add_mul q 1 y1, Nat.one_mul]
    have exq : q * (y1 * 4294967296 + y0) = (q * y1) * 4294967296 + q * y0 := by
      rw [Nat.mul_add, ← Nat.mul_assoc]
    have h1' : u = q * y1 + (r + y1) := by rw [Nat.add_mul] at h1; omega
    have hcut : u * 4294967296 + u1 < (q + 1) * (y1 * 4294967296 + y0) → Jf ((q + 1 : Nat) : Int) r = Kf (((u * 4294967296 + u1) / (y1 * 4294967296 + y0) : Nat) : Int) := by
      intro hT
      rw [hJ, w1, w2]
      by_cases hc : 4294967296 ≤ r + y1
      · have hq0 : q * y0 ≤ 4294967296 * 4294967295 := Nat.mul_le_mul hq (by omega)
        have : (u * 4294967296 + u1) / (y1 * 4294967296 + y0) = q := by
          refine Nat.div_eq_of_lt_le ?_ hT
          rw [exq, h1']
          omega
        rw [bD_pos (by omega), this]
      · rw [bD_neg (by omega)]
        exact ih (r + y1) h1' (by omega) hT
    rw [hL, w3, w4]
    by_cases hb : 4294967296 ≤ q + 1
    · rw [bD_pos (by omega)]
      apply hcut
      have : 4294967296 * (y1 * 4294967296 + y0) ≤ (q + 1) * (y1 * 4294967296 + y0) := Nat.mul_le_mul_right _ hb
      omega
    · rw [bD_neg (by omega)]
      by_cases hc : 4294967296 * r + u1 < (q + 1) * y0
      · rw [bD_pos (by omega)]
        apply hcut
        rw [ex]
        omega
      · have : (u * 4294967296 + u1) / (y1 * 4294967296 + y0) = q + 1 := by
          refine Nat.div_eq_of_lt_le ?_ h3
          rw [ex, h1']
          rw [Nat.add_mul (q * y1)]
          omega
        rw [bD_neg (by omega), this]
theorem wsub (P b Q : Int) : IntKind.u64.wrap (IntKind.u64.wrap (IntKind.u64.wrap P + b) - IntKind.u64.wrap Q) = IntKind.u64.wrap (P + b - Q) := by
  rw [wrap_u64_eq, wrap_u64_eq, wrap_u64_eq, wrap_u64_eq, wrap_u64_eq]; omega
theorem modw {u u1 y : Nat} (hy : 0 < y) (hy' : y ≤ 18446744073709551616) : IntKind.u64.wrap ((u : Int) * 4294967296 + (u1 : Int) - (((u * 4294967296 + u1) / y : Nat) : Int) * (y : Int)) = (((u * 4294967296 + u1) % y : Nat) : Int) := by
  have h := Nat.div_add_mod (u * 4294967296 + u1) y
  have hm := Nat.mod_lt (u * 4294967296 + u1) hy
  rw [← Int.natCast_mul, Nat.mul_comm _ y]
  generalize y * ((u * 4294967296 + u1) / y) = z at *
  generalize (u * 4294967296 + u1) % y = m at *
  rw [wrap_u64 (by omega) (by omega)]
  omega
theorem knuth {y1 y0 u u1 u0 s : Nat} (hy1 : 2147483648 ≤ y1) (hy1' : y1 < 4294967296) (hy0 : y0 < 4294967296) (hu : u < y1 * 4294967296 + y0) (hu1 : u1 < 4294967296) (hu0 : u0 < 4294967296) (hs : s ≤ 63) :
    L17 ((y1 * 4294967296 + y0 : Nat) : Int) s y1 y0 u u1 u0 ((u / y1 : Nat) : Int) ((u % y1 : Nat) : Int) =
      some [D.s (.sc (.int .u64 (((u * 18446744073709551616 + (u1 * 4294967296 + u0)) / (y1 * 4294967296 + y0) : Nat) : Int))), D.s (.sc (.int .u64 (((u * 18446744073709551616 + (u1 * 4294967296 + u0)) % (y1 * 4294967296 + y0) / 2 ^ s : Nat) : Int)))] := by
  have hy : 0 < y1 * 4294967296 + y0 := by omega
  have start1 : ∀ v : Nat, ∀ w : Nat, w < 4294967296 → v * 4294967296 + w < (v / y1 + 1) * (y1 * 4294967296 + y0) := by
    intro v w hw
    have h := Nat.div_add_mod v y1
    have hm := Nat.mod_lt v (show 0 < y1 by omega)
    have : (v / y1 + 1) * (y1 * 4294967296 + y0) = (y1 * (v / y1) + y1) * 4294967296 + (v / y1 + 1) * y0 := by
      rw [Nat.mul_add, ← Nat.mul_assoc, Nat.add_mul, Nat.one_mul, Nat.mul_comm y1]
    rw [this]
    omega
  have dm : ∀ v : Nat, v = v / y1 * y1 + v % y1 := by
    intro v
    rw [Nat.mul_comm]
    exact (Nat.div_add_mod v y1).symm
  obtain ⟨Y, hY⟩ : ∃ Y : Int, Y = ((y1 * 4294967296 + y0 : Nat) : Int) := ⟨_, rfl⟩
  rw [← hY]
  have l1 : L17 Y s y1 y0 u u1 u0 ((u / y1 : Nat) : Int) ((u % y1 : Nat) : Int) = J21 Y s y1 y0 u u1 u0 (((u * 4294967296 + u1) / (y1 * 4294967296 + y0) : Nat) : Int) :=
    loop hy1 hy1' hy0 hu hu1 (L17 Y s y1 y0 u u1 u0) (J18 Y s y1 y0 u u1 u0) (J21 Y s y1 y0 u u1 u0) (fun q r => L17_eq ..) (fun q r => J18_eq ..) (u / y1) (u % y1) (dm u) (by have := Nat.mod_lt u (show 0 < y1 by omega); omega) (start1 u u1 hu1)
  refine l1.trans ?_
  rw [J21_eq, if_neg (by omega), wsub]
  have m1 := modw (u := u) (u1 := u1) hy (by omega)
  rw [← hY] at m1
  rw [m1]
  obtain ⟨q1, hq1⟩ : ∃ q1, (u * 4294967296 + u1) / (y1 * 4294967296 + y0) = q1 := ⟨_, rfl⟩
  rw [hq1]
  have hv := Nat.mod_lt (u * 4294967296 + u1) hy
  have hT := Nat.div_add_mod (u * 4294967296 + u1) (y1 * 4294967296 + y0)
  rw [hq1] at hT
  obtain ⟨v, hve⟩ : ∃ v, (u * 4294967296 + u1) % (y1 * 4294967296 + y0) = v := ⟨_, rfl⟩
  rw [hve] at hv hT ⊢
  have hd : v / y1 ≤ v := Nat.div_le_self _ _
  have w5 : IntKind.u64.wrap ((v : Int).tdiv (y1 : Int)) = ((v / y1 : Nat) : Int) := by
    rw [Int.tdiv_eq_ediv_of_nonneg (by omega), ← Int.natCast_ediv]
    exact wrapN (by omega)
  have w6 : IntKind.u64.wrap ((v : Int) - IntKind.u64.wrap (((v / y1 : Nat) : Int) * (y1 : Int))) = ((v % y1 : Nat) : Int) := by
    have := dm v
    have hm := Nat.mod_lt v (show 0 < y1 by omega)
    rw [← Int.natCast_mul]
    generalize v / y1 * y1 = z at *
    generalize v % y1 = m at *
    rw [wrap_u64 (n := (z : Int)) (by omega) (by omega), wrap_u64 (by omega) (by omega)]
    omega
  have l2 : L24 Y s y1 y0 u0 q1 ((v % y1 : Nat) : Int) v ((v / y1 : Nat) : Int) = J28 Y s u0 q1 v (((v * 4294967296 + u0) / (y1 * 4294967296 + y0) : Nat) : Int) :=
    loop hy1 hy1' hy0 hv hu0 (fun q r => L24 Y s y1 y0 u0 q1 r v q) (fun q r => J25 Y s y1 y0 u0 q1 r v q) (J28 Y s u0 q1 v) (fun q r => L24_eq ..) (fun q r => J25_eq ..) (v / y1) (v % y1) (dm v) (by have := Nat.mod_lt v (show 0 < y1 by omega); omega) (start1 v u0 hu0)
  rw [w5, w6, l2]
  rw [J28_eq, if_neg (by omega), wsub]
  have m2 := modw (u := v) (u1 := u0) hy (by omega)
  rw [← hY] at m2
  rw [m2]
  have hw := Nat.mod_lt (v * 4294967296 + u0) hy
  have hT0 := Nat.div_add_mod (v * 4294967296 + u0) (y1 * 4294967296 + y0)
  have hq0 : (v * 4294967296 + u0) / (y1 * 4294967296 + y0) < 4294967296 := Nat.div_lt_of_lt_mul (by omega)
  have hq1' : q1 < 4294967296 := by rw [← hq1]; exact Nat.div_lt_of_lt_mul (by omega)
  obtain ⟨q0, hqe⟩ : ∃ q0, (v * 4294967296 + u0) / (y1 * 4294967296 + y0) = q0 := ⟨_, rfl⟩
  obtain ⟨w, hwe⟩ : ∃ w, (v * 4294967296 + u0) % (y1 * 4294967296 + y0) = w := ⟨_, rfl⟩
  rw [hqe] at hT0 hq0 ⊢
  rw [hwe] at hT0 hw ⊢
  have key : u * 18446744073709551616 + (u1 * 4294967296 + u0) = (y1 * 4294967296 + y0) * (q1 * 4294967296 + q0) + w := by
    rw [Nat.mul_add, ← Nat.mul_assoc]
    generalize (y1 * 4294967296 + y0) * q1 = A at *
    generalize (y1 * 4294967296 + y0) * q0 = C at *
    omega
  rw [key, Nat.mul_add_div hy, Nat.div_eq_of_lt hw, Nat.mul_add_mod, Nat.mod_eq_of_lt hw, Nat.add_zero, Int.toNat_natCast, show min s 64 = s from by omega]
  have w7 : IntKind.u64.wrap (IntKind.u64.wrap ((q1 : Int) * 4294967296) + (q0 : Int)) = ((q1 * 4294967296 + q0 : Nat) : Int) := by
    rw [wrap_u64 (n := (q1 : Int) * 4294967296) (by omega) (by omega), wrap_u64 (by omega) (by omega)]
    omega
  rw [w7, ← Int.natCast_ediv]
noncomputable def sp (a b c : Int) : Prop × List D := ((0 ≤ a ∧ a < c) ∧ (0 ≤ b ∧ b < 18446744073709551616) ∧ c < 18446744073709551616, [.s (.sc (.int .u64 (((a.toNat * 18446744073709551616 + b.toNat) / c.toNat : Nat) : Int))), .s (.sc (.int .u64 (((a.toNat * 18446744073709551616 + b.toNat) % c.toNat : Nat) : Int)))])
theorem spec (a b c : Int) (h : (sp a b c).1) : evalFn E Tryz.f148 cod [(pN .u64).put a, (pN .u64).put b, (pN .u64).put c] = some (sp a b c).2 := by
  obtain ⟨⟨h1, h2⟩, ⟨h3, h4⟩, h5⟩ := h
  refine (start a b c).trans ?_
  obtain ⟨x, rfl⟩ := Int.eq_ofNat_of_zero_le h1
  obtain ⟨l, rfl⟩ := Int.eq_ofNat_of_zero_le h3
  obtain ⟨y, rfl⟩ := Int.eq_ofNat_of_zero_le (show 0 ≤ c by omega)
  show _ = some [D.s (.sc (.int .u64 ((((x : Int).toNat * 18446744073709551616 + (l : Int).toNat) / (y : Int).toNat : Nat) : Int))), D.s (.sc (.int .u64 ((((x : Int).toNat * 18446744073709551616 + (l : Int).toNat) % (y : Int).toNat : Nat) : Int)))]
  rw [Int.toNat_natCast, Int.toNat_natCast, Int.toNat_natCast, bE_neg (by omega), J3_eq, bD_neg (by omega), J5_eq]
  by_cases hx : x = 0
  · subst hx
    have hd : l / y ≤ l := Nat.div_le_self _ _
    rw [bE_pos (a := ((0 : Nat) : Int)) (b := 0) rfl, if_neg (by omega), if_neg (by omega), Int.tdiv_eq_ediv_of_nonneg (by omega), Int.tmod_eq_emod_of_nonneg (by omega), ← Int.natCast_ediv, ← Int.natCast_emod, wrapN (by omega), Nat.zero_mul, Nat.zero_add]
  · have hy0 : y ≠ 0 := by omega
    have hbp := bl_pos hy0
    have hb64 : bl y ≤ 64 := bl_le.2 (by omega)
    have hge := bl_ge hy0
    have hlt := lt_bl y
    obtain ⟨s, hs⟩ : ∃ s, s = 64 - bl y := ⟨_, rfl⟩
    have hs63 : s ≤ 63 := by omega
    have w1 : IntKind.u64.wrap (64 - ((bl y : Nat) : Int)) = (s : Int) := by rw [wrap_u64 (by omega) (by omega)]; omega
    have w2 : IntKind.u64.wrap (64 - (s : Int)) = ((64 - s : Nat) : Int) := by rw [wrap_u64 (by omega) (by omega)]; omega
    have e64 : 2 ^ (64 - s) * 2 ^ s = 18446744073709551616 := by rw [← Nat.pow_add, show 64 - s + s = 64 from by omega]
    have e63 : 2 ^ (bl y - 1) * 2 ^ s = 9223372036854775808 := by rw [← Nat.pow_add, show bl y - 1 + s = 63 from by omega]
    have hps : 0 < 2 ^ s := Nat.pow_pos (by omega)
    have hyp : y + 1 ≤ 2 ^ (64 - s) := by rw [show 64 - s = bl y from by omega]; omega
    have hyp1 : (y + 1) * 2 ^ s ≤ 18446744073709551616 := by rw [← e64]; exact Nat.mul_le_mul_right _ hyp
    have hyp2 : 9223372036854775808 ≤ y * 2 ^ s := by rw [← e63]; exact Nat.mul_le_mul_right _ hge
    have hxp : (x + 1) * 2 ^ s ≤ y * 2 ^ s := Nat.mul_le_mul_right _ (by omega)
    rw [Nat.add_mul, Nat.one_mul] at hyp1 hxp
    have wy : IntKind.u64.wrap ((y : Int) * ((2 ^ s : Nat) : Int)) = ((y * 2 ^ s : Nat) : Int) := by rw [← Int.natCast_mul]; exact wrap_u64 (by omega) (by omega)
    have wx : IntKind.u64.wrap ((x : Int) * ((2 ^ s : Nat) : Int)) = ((x * 2 ^ s : Nat) : Int) := by rw [← Int.natCast_mul]; exact wrap_u64 (by omega) (by omega)
    have wl : IntKind.u64.wrap ((l : Int) * ((2 ^ s : Nat) : Int)) = ((l * 2 ^ s % 18446744073709551616 : Nat) : Int) := by rw [← Int.natCast_mul, wrap_u64_eq]; omega
    have hlo : l / 2 ^ (64 - s) < 2 ^ s := by
      apply Nat.div_lt_of_lt_mul
      rw [e64]
      omega
    have hsp := shl_parts l s (by omega)
    have wor : bitsI .or .u64 ((x * 2 ^ s : Nat) : Int) (((l / 2 ^ (64 - s) : Nat)) : Int) = ((x * 2 ^ s + l / 2 ^ (64 - s) : Nat) : Int) := by
      have := or_low (n := x) hlo
      rw [or64 (by omega) (by omega) (by omega) (by omega), Int.toNat_natCast, Int.toNat_natCast, Nat.or_comm, Nat.mul_comm x, this, Nat.add_comm]
    have wand : ∀ z : Nat, z < 18446744073709551616 → bitsI .and .u64 (z : Int) 4294967295 = ((z % 4294967296 : Nat) : Int) := by
      intro z hz
      rw [and_mask32 (by omega) (by omega)]
      omega
    rw [bE_neg (by omega), gP ⟨by omega, by omega⟩, Int.toNat_natCast, w1, w2, if_neg (by omega), if_neg (by omega), if_neg (by omega), if_neg (by omega),
      Int.toNat_natCast, Int.toNat_natCast, show min s 64 = s from by omega, show min (64 - s) 64 = 64 - s from by omega, wy, wx, wl, ← Int.natCast_ediv l, wor]
    have hu : x * 2 ^ s + l / 2 ^ (64 - s) < y * 2 ^ s := by omega
    have hU : (x * 18446744073709551616 + l) * 2 ^ s = (x * 2 ^ s + l / 2 ^ (64 - s)) * 18446744073709551616 + l * 2 ^ s % 18446744073709551616 := by
      rw [Nat.add_mul, hsp, Nat.mul_right_comm]
      omega
    have hlm : l * 2 ^ s % 18446744073709551616 < 18446744073709551616 := Nat.mod_lt _ (by omega)
    have hdiv : (x * 18446744073709551616 + l) / y = ((x * 2 ^ s + l / 2 ^ (64 - s)) * 18446744073709551616 + l * 2 ^ s % 18446744073709551616) / (y * 2 ^ s) := by
      rw [← hU, Nat.mul_div_mul_right _ _ hps]
    have hmod : (x * 18446744073709551616 + l) % y = ((x * 2 ^ s + l / 2 ^ (64 - s)) * 18446744073709551616 + l * 2 ^ s % 18446744073709551616) % (y * 2 ^ s) / 2 ^ s := by
      rw [← hU, Nat.mul_mod_mul_right, Nat.mul_div_cancel _ hps]
    rw [hdiv, hmod]
    clear hdiv hmod hU wor wl wx wy hsp hlo hxp
    generalize x * 2 ^ s + l / 2 ^ (64 - s) = U at *
    generalize y * 2 ^ s = Y at *
    generalize l * 2 ^ s % 18446744073709551616 = V at *
    have k := knuth (y1 := Y / 4294967296) (y0 := Y % 4294967296) (u := U) (u1 := V / 4294967296) (u0 := V % 4294967296) (s := s) (by omega) (by omega) (by omega) (by omega) (by omega) (by omega) hs63
    rw [show Y / 4294967296 * 4294967296 + Y % 4294967296 = Y from by omega, show V / 4294967296 * 4294967296 + V % 4294967296 = V from by omega] at k
    have hY1 : (Y : Int) / 4294967296 = ((Y / 4294967296 : Nat) : Int) := by omega
    have hV1 : (V : Int) / 4294967296 = ((V / 4294967296 : Nat) : Int) := by omega
    have hd : U / (Y / 4294967296) ≤ U := Nat.div_le_self _ _
    have hdm := Nat.div_add_mod U (Y / 4294967296)
    have q1 : IntKind.u64.wrap ((U : Int).tdiv ((Y / 4294967296 : Nat) : Int)) = ((U / (Y / 4294967296) : Nat) : Int) := by
      rw [Int.tdiv_eq_ediv_of_nonneg (by omega), ← Int.natCast_ediv]
      exact wrapN (by omega)
    have r1 : IntKind.u64.wrap ((U : Int) - IntKind.u64.wrap (((U / (Y / 4294967296) : Nat) : Int) * ((Y / 4294967296 : Nat) : Int))) = ((U % (Y / 4294967296) : Nat) : Int) := by
      rw [← Int.natCast_mul, Nat.mul_comm]
      generalize Y / 4294967296 * (U / (Y / 4294967296)) = z at *
      generalize U % (Y / 4294967296) = m at *
      rw [wrap_u64 (n := (z : Int)) (by omega) (by omega), wrap_u64 (by omega) (by omega)]
      omega
    rw [hY1, hV1, if_neg (by omega), wand _ (by omega), wand _ hlm, q1, r1]
    exact k

noncomputable def orc : Orc := orc3 (pN .u64) (pN .u64) (pN .u64) sp
theorem fnok : FnOk Tryz.prog E 148 Tryz.f148 cod := fnOk ty_ok mixed (callsOk_of _ rfl (orcs_cons Lz64.ok orcs_nil) (ext_ok)) Tryz.func148 rfl rfl rfl
theorem ok : OrcOk Tryz.prog base.glob 148 orc := fnok.ok3 rfl spec
end Div64
end Go.Proofs.YtfebndgmmekmgaaGreatDoor.W

/- gnomon/nat.DivWord -/
namespace Go.Proofs.YtfebndgmmekmgaaGreatDoor.W
open Go Go.Proofs.YtfebndgmmekmgaaGreatDoor.AI Go.Proofs.YtfebndgmmekmgaaGreatDoor.M
namespace NDivWord
noncomputable def E : Env := { ({ base with C := callsOf [(105, NForm.orc), (106, NTold.orc), (148, Div64.orc)] }) with nt := 45, own := [34, 40], keep := fun k => (tlook [(8, [0, 1, 7, 8, 9])] k).getD [], cut := tlook [] }
noncomputable def cod : Code := (Go.Proofs.Tryz.f108.body).getD .skip
theorem nok : namesOk E cod = true := by kernel_rfl
noncomputable def L8 (xs0 : List Int) (x1 : Int) (m2 : Nat) (xs3 : List Int) (x4 : Int) (x5 : Int) : Option (List D) := lpO E Go.Proofs.Tryz.f108 cod 8 [(A.v (V.one (L.s (S.ints IntKind.u64 xs0))), none), (A.v (V.one (L.s (S.sc (Value.int IntKind.u64 x1)))), none), (A.v (V.one (L.buf (2 : Nat) m2)), some { e := (24 : Nat), cont := Cont.ints IntKind.u64 xs3 }), (A.v (V.one (L.s (S.sc (Value.int IntKind.u64 x4)))), none), (A.v (V.one (L.s (S.sc (Value.int IntKind.i64 x5)))), none)]
theorem start (a : List Int) (b : Int) : evalFn E Go.Proofs.Tryz.f108 cod [D.s (S.ints IntKind.u64 a), D.s (S.sc (Value.int IntKind.u64 b))] = gif (a.length ≤ (1099511627776 : Nat)) (bcase (!NForm.formB a) (some [D.s (S.sc (Value.slice none (0 : Nat) (0 : Nat))), D.s (S.sc (Value.int IntKind.u64 (0 : Int))), D.s (S.sc (Value.int IntKind.i64 (2 : Int)))]) (bcase (b == (0 : Int)) (some [D.s (S.sc (Value.slice none (0 : Nat) (0 : Nat))), D.s (S.sc (Value.int IntKind.u64 (0 : Int))), D.s (S.sc (Value.int IntKind.i64 (4 : Int)))]) (if (0 : Int) ≤ (↑a.length : Int) ∧ (↑a.length : Int) ≤ (↑a.length : Int) ∧ (↑a.length : Int) ≤ (8796093022208 : Int) then NDivWord.L8 a b (↑a.length : Int).toNat (List.replicate (↑a.length : Int).toNat (0 : Int)) (0 : Int) (IntKind.i64.wrap ((↑a.length : Int) - (1 : Int))) else none))) := (evalFn_J rfl nok _).trans (by kernel_rfl)
theorem L8_eq (xs0 : List Int) (x1 : Int) (m2 : Nat) (xs3 : List Int) (x4 : Int) (x5 : Int) : L8 xs0 x1 m2 xs3 x4 x5 = bcase (decide ((0 : Int) ≤ x5)) (if (0 : Int) ≤ x5 ∧ x5 < (↑xs0.length : Int) then gif (((0 : Int) ≤ x4 ∧ x4 < x1) ∧ ((0 : Int) ≤ xs0.getD x5.toNat (0 : Int) ∧ xs0.getD x5.toNat (0 : Int) < (18446744073709551616 : Int)) ∧ x1 < (18446744073709551616 : Int)) (if (0 : Int) ≤ x5 ∧ x5 < (↑m2 : Int) then NDivWord.L8 xs0 x1 m2 (xs3.set x5.toNat (↑((x4.toNat * (18446744073709551616 : Nat) + (xs0.getD x5.toNat (0 : Int)).toNat) / x1.toNat) : Int)) (↑((x4.toNat * (18446744073709551616 : Nat) + (xs0.getD x5.toNat (0 : Int)).toNat) % x1.toNat) : Int) (IntKind.i64.wrap (x5 - (1 : Int))) else none) else none) (gif (M6.Dig xs3 ∧ xs3.length ≤ (1099511627776 : Nat)) (some [D.s (S.ints IntKind.u64 (bif NTold.okN (M6.val xs3) then M6.dg (M6.val xs3) else [])), D.s (S.sc (Value.int IntKind.u64 x4)), D.s (S.sc (Value.int IntKind.i64 (0 : Int)))])) := (loopAt_J rfl nok 8 _).trans (by kernel_rfl)
-- stuck: 0
end NDivWord
namespace NDivWord
theorem L {a : List Int} {b : Nat} (ha : M6.Nrm a) (hl : a.length ≤ 8192) (hb0 : 0 < b) (hb : b < 18446744073709551616) : ∀ (i : Nat) (Q : List Int), i + Q.length = a.length → M6.Dig Q → M6.val Q = M6.val (a.drop i) / b →
    L8 a b a.length (List.replicate i 0 ++ Q) ((M6.val (a.drop i) % b : Nat) : Int) ((i : Int) - 1) = some [D.s (.ints .u64 (M6.dg (M6.val a / b))), D.s (.sc (.int .u64 ((M6.val a % b : Nat) : Int))), D.s (.sc (.int .i64 0))] := by
  intro i
  induction i with
  | zero =>
    intro Q hi hd hv
    have hok : NTold.okN (M6.val a / b) = true := by
      refine decide_eq_true ?_
      rw [List.drop_zero] at hv
      rw [← hv]
      have := M6.len_val hd
      omega
    rw [List.drop_zero] at hv ⊢
    rw [List.replicate_zero, List.nil_append, L8_eq, bD_neg (by omega), gP ⟨hd, by omega⟩, hv, hok]
    rfl
  | succ i ih =>
    intro Q hi hd hv
    have g := ha.dig.get i
    have hm := Nat.mod_lt (M6.val (a.drop (i + 1))) hb0
    have hdm := Nat.div_add_mod (M6.val (a.drop (i + 1))) b
    have w : IntKind.i64.wrap ((i : Int) - 1) = (i : Int) - 1 := by rw [wrap_i64 (by omega) (by omega)]
    have hs : (List.replicate i (0 : Int) ++ 0 :: Q).set i ((((M6.val (a.drop (i + 1)) % b) * 18446744073709551616 + (a.getD i 0).toNat) / b : Nat) : Int) = List.replicate i 0 ++ (((((M6.val (a.drop (i + 1)) % b) * 18446744073709551616 + (a.getD i 0).toNat) / b : Nat) : Int) :: Q) := set_at (by simp) _ _ _
    have hN : M6.val (a.drop i) = b * (18446744073709551616 * (M6.val (a.drop (i + 1)) / b)) + ((M6.val (a.drop (i + 1)) % b) * 18446744073709551616 + (a.getD i 0).toNat) := by
      rw [M6.val_drop_one, Nat.mul_left_comm]
      generalize b * (M6.val (a.drop (i + 1)) / b) = z at *
      omega
    have hq : ((M6.val (a.drop (i + 1)) % b) * 18446744073709551616 + (a.getD i 0).toNat) / b < 18446744073709551616 := by
      apply Nat.div_lt_of_lt_mul
      have : (M6.val (a.drop (i + 1)) % b + 1) * 18446744073709551616 ≤ b * 18446744073709551616 := Nat.mul_le_mul_right _ hm
      omega
    have hcast : (0 : Int) ≤ ((M6.val (a.drop (i + 1)) % b : Nat) : Int) ∧ ((M6.val (a.drop (i + 1)) % b : Nat) : Int) < (b : Int) := ⟨Int.natCast_nonneg _, Int.ofNat_lt.2 hm⟩
    have hlast := ih (((((M6.val (a.drop (i + 1)) % b) * 18446744073709551616 + (a.getD i 0).toNat) / b : Nat) : Int) :: Q) (by rw [List.length_cons]; omega) (M6.dig_cons.2 ⟨⟨Int.natCast_nonneg _, Int.ofNat_lt.2 hq⟩, hd⟩) (by
        show (((((M6.val (a.drop (i + 1)) % b) * 18446744073709551616 + (a.getD i 0).toNat) / b : Nat) : Int)).toNat + 18446744073709551616 * M6.val Q = _
        rw [Int.toNat_natCast, hN, Nat.mul_add_div hb0, hv, Nat.add_comm])
    rw [L8_eq, show (((i + 1 : Nat) : Int) - 1) = (i : Int) from by omega, bD_pos (by omega), if_pos ⟨by omega, by omega⟩, Int.toNat_natCast, gP ⟨hcast, g, by omega⟩, if_pos ⟨by omega, by omega⟩, Int.toNat_natCast, Int.toNat_natCast, w, List.replicate_succ', List.append_assoc, List.singleton_append, hs]
    rw [hN, Nat.mul_add_mod] at hlast
    exact hlast
noncomputable def sp (a : List Int) (n : Int) : Prop × List D := (M6.Nrm a ∧ a.length ≤ 8192 ∧ 0 < n ∧ n < 18446744073709551616, [.s (.ints .u64 (M6.dg (M6.val a / n.toNat))), .s (.sc (.int .u64 ((M6.val a % n.toNat : Nat) : Int))), .s (.sc (.int .i64 0))])
theorem spec (a : List Int) (n : Int) (h : (sp a n).1) : evalFn E Tryz.f108 cod [(pI .u64).put a, (pN .u64).put n] = some (sp a n).2 := by
  obtain ⟨ha, hl, h0, h1⟩ := h
  obtain ⟨b, rfl⟩ := Int.eq_ofNat_of_zero_le (show 0 ≤ n by omega)
  refine (start a b).trans ?_
  show _ = some [D.s (.ints .u64 (M6.dg (M6.val a / (b : Int).toNat))), D.s (.sc (.int .u64 ((M6.val a % (b : Int).toNat : Nat) : Int))), D.s (.sc (.int .i64 0))]
  have w : IntKind.i64.wrap ((a.length : Int) - 1) = (a.length : Int) - 1 := by rw [wrap_i64 (by omega) (by omega)]
  rw [Int.toNat_natCast, Int.toNat_natCast, gP (by omega), NForm.form_of ha hl, Bool.not_true, bF, bE_neg (by omega), if_pos ⟨by omega, by omega, by omega⟩, w]
  have := L (b := b) ha hl (by omega) (by omega) a.length [] (by simp) M6.dig_nil (by simp [M6.val])
  rw [List.append_nil, List.drop_length] at this
  simp only [M6.val, Nat.zero_mod] at this
  exact this

noncomputable def orc : Orc := orc2 (pI .u64) (pN .u64) sp
theorem fnok : FnOk Tryz.prog E 108 Tryz.f108 cod := fnOk ty_ok mixed (callsOk_of _ rfl (orcs_cons NForm.ok (orcs_cons NTold.ok (orcs_cons Div64.ok orcs_nil))) (ext_ok)) Tryz.func108 rfl rfl rfl
theorem ok : OrcOk Tryz.prog base.glob 108 orc := fnok.ok2 rfl spec
end NDivWord
end Go.Proofs.YtfebndgmmekmgaaGreatDoor.W

/- gnomon/natdiv.QuoRem -/
namespace Go.Proofs.YtfebndgmmekmgaaGreatDoor.W
open Go Go.Proofs.YtfebndgmmekmgaaGreatDoor.AI Go.Proofs.YtfebndgmmekmgaaGreatDoor.M
namespace QuoRem
noncomputable def E : Env := { ({ base with C := callsOf [(105, NForm.orc), (104, NCmp.orc), (107, NNorm.orc), (108, NDivWord.orc), (66, NWord.orc)] }) with nt := 98, own := [37, 49, 55, 76, 88, 93], keep := fun k => (tlook [] k).getD [], cut := tlook [(3, [0, 1])] }
noncomputable def cod : Code := (Go.Proofs.Tryz.f63.body).getD .skip
theorem nok : namesOk E cod = true := by kernel_rfl
noncomputable def J3 (xs0 : List Int) (xs1 : List Int) : Option (List D) := ctO E Go.Proofs.Tryz.f63 cod 3 [(A.v (V.one (L.s (S.ints IntKind.u64 xs0))), none), (A.v (V.one (L.s (S.ints IntKind.u64 xs1))), none)]
theorem start (a : List Int) (b : List Int) : evalFn E Go.Proofs.Tryz.f63 cod [D.s (S.ints IntKind.u64 a), D.s (S.ints IntKind.u64 b)] = gif (a.length ≤ (1099511627776 : Nat)) (bcase (!NForm.formB a) (some [D.s (S.sc (Value.slice none (0 : Nat) (0 : Nat))), D.s (S.sc (Value.slice none (0 : Nat) (0 : Nat))), D.s (S.sc (Value.int IntKind.i64 (2 : Int)))]) (gif (b.length ≤ (1099511627776 : Nat)) (bcase (!NForm.formB b) (some [D.s (S.sc (Value.slice none (0 : Nat) (0 : Nat))), D.s (S.sc (Value.slice none (0 : Nat) (0 : Nat))), D.s (S.sc (Value.int IntKind.i64 (2 : Int)))]) (QuoRem.J3 a b)))) := (evalFn_J rfl nok _).trans (by kernel_rfl)
theorem J3_eq (xs0 : List Int) (xs1 : List Int) : J3 xs0 xs1 = bcase ((↑xs1.length : Int) == (0 : Int)) (some [D.s (S.sc (Value.slice none (0 : Nat) (0 : Nat))), D.s (S.sc (Value.slice none (0 : Nat) (0 : Nat))), D.s (S.sc (Value.int IntKind.i64 (4 : Int)))]) (gif (M6.Dig xs0 ∧ M6.Dig xs1 ∧ xs0.length ≤ (1099511627776 : Nat) ∧ xs1.length ≤ (1099511627776 : Nat)) (bcase (decide (cmpN (M6.val xs0) (M6.val xs1) < (0 : Int))) (gif (M6.Dig xs0 ∧ xs0.length ≤ (1099511627776 : Nat)) (some [D.s (S.sc (Value.slice none (0 : Nat) (0 : Nat))), D.s (S.ints IntKind.u64 (bif NTold.okN (M6.val xs0) then M6.dg (M6.val xs0) else [])), D.s (S.sc (Value.int IntKind.i64 (0 : Int)))])) (bcase ((↑xs1.length : Int) == (1 : Int)) (if (0 : Int) ≤ (0 : Int) ∧ (0 : Int) < (↑xs1.length : Int) then gif (M6.Nrm xs0 ∧ xs0.length ≤ (8192 : Nat) ∧ (0 : Int) < xs1.getD (0 : Nat) (0 : Int) ∧ xs1.getD (0 : Nat) (0 : Int) < (18446744073709551616 : Int)) (gif ((0 : Int) ≤ (↑(M6.val xs0 % (xs1.getD (0 : Nat) (0 : Int)).toNat) : Int) ∧ (↑(M6.val xs0 % (xs1.getD (0 : Nat) (0 : Int)).toNat) : Int) < (18446744073709551616 : Int)) (some [D.s (S.ints IntKind.u64 (M6.dg (M6.val xs0 / (xs1.getD (0 : Nat) (0 : Int)).toNat))), D.s (S.ints IntKind.u64 (M6.dg (↑(M6.val xs0 % (xs1.getD (0 : Nat) (0 : Int)).toNat) : Int).toNat)), D.s (S.sc (Value.int IntKind.i64 (0 : Int)))])) else none) (if (0 : Int) ≤ IntKind.i64.wrap ((↑xs1.length : Int) - (1 : Int)) ∧ IntKind.i64.wrap ((↑xs1.length : Int) - (1 : Int)) < (↑xs1.length : Int) then none else none)))) := (cutAt_J rfl nok 3 _).trans (by kernel_rfl)
-- stuck: 0
end QuoRem
namespace QuoRem
noncomputable def sp (a b : List Int) : Prop × List D := (M6.Nrm a ∧ a.length ≤ 8192 ∧ M6.Nrm b ∧ b.length = 1, [.s (.ints .u64 (M6.dg (M6.val a / M6.val b))), .s (.ints .u64 (M6.dg (M6.val a % M6.val b))), .s (.sc (.int .i64 0))])
theorem spec (a b : List Int) (h : (sp a b).1) : ∃ rs, evalFn E Tryz.f63 cod [(pI .u64).put a, (pI .u64).put b] = some rs ∧ RsLe rs (sp a b).2 := by
  obtain ⟨ha, hl, hb, h1⟩ := h
  have e := start a b
  have g := hb.dig.get 0
  have hv : M6.val b = (b.getD 0 0).toNat := by
    have := M6.val_take_one (a := b) 0
    rw [M6.val_take_ge (by omega)] at this
    simpa [M6.val] using this
  have hz : M6.val b ≠ 0 := fun h => by have := (M6.len_zero hb).2 h; omega
  rw [gP (by omega), NForm.form_of ha hl, Bool.not_true, bF, gP (by omega), NForm.form_of hb (by omega), Bool.not_true, bF, J3_eq, bE_neg (by omega), gP ⟨ha.dig, hb.dig, by omega, by omega⟩] at e
  unfold sp
  simp only
  by_cases hc : M6.val a < M6.val b
  · have hok : NTold.okN (M6.val a) = true := decide_eq_true (by rw [nrm6_len ha]; exact hl)
    rw [bD_pos (by unfold cmpN; rw [if_pos hc]; omega), gP ⟨ha.dig, by omega⟩, hok] at e
    rw [Nat.div_eq_of_lt hc, Nat.mod_eq_of_lt hc, M6.dg_zero]
    exact ⟨_, e, .cons (RLe.nil _) (RsLe.refl _)⟩
  · have hm := Nat.mod_lt (M6.val a) (show 0 < M6.val b by omega)
    rw [bD_neg (by unfold cmpN; rw [if_neg hc]; split <;> omega), bE_pos (by omega), if_pos ⟨by omega, by omega⟩, gP ⟨ha, by omega, by omega, by omega⟩, ← hv, gP ⟨Int.natCast_nonneg _, by generalize M6.val a % M6.val b = m at *; omega⟩, Int.toNat_natCast] at e
    exact ⟨_, e, RsLe.refl _⟩

noncomputable def orc : Orc := orc2 (pI .u64) (pI .u64) sp
theorem fnok : FnOk Tryz.prog E 63 Tryz.f63 cod := fnOk ty_ok mixed (callsOk_of _ rfl (orcs_cons NForm.ok (orcs_cons NCmp.ok (orcs_cons NNorm.ok (orcs_cons NDivWord.ok (orcs_cons NWord.ok orcs_nil))))) (ext_ok)) Tryz.func63 rfl rfl rfl
theorem ok : OrcOk Tryz.prog base.glob 63 orc := fnok.wk2 rfl spec
end QuoRem
end Go.Proofs.YtfebndgmmekmgaaGreatDoor.W

/- gnomon/num.Mod -/
namespace Go.Proofs.YtfebndgmmekmgaaGreatDoor.W
open Go Go.Proofs.YtfebndgmmekmgaaGreatDoor.AI Go.Proofs.YtfebndgmmekmgaaGreatDoor.M
namespace MMod
noncomputable def E : Env := { ({ base with C := callsOf [(60, MForm.orc), (63, QuoRem.orc), (64, NSub.orc), (62, MTold.orc)] }) with nt := 60, own := [28, 50, 57], keep := fun k => (tlook [] k).getD [], cut := tlook [(3, [2, 3, 4])] }
noncomputable def cod : Code := (Go.Proofs.Tryz.f23.body).getD .skip
theorem nok : namesOk E cod = true := by kernel_rfl
noncomputable def J3 (b0 : Bool) (xs1 : List Int) (b2 : Bool) (xs3 : List Int) (b4 : Bool) : Option (List D) := ctO E Go.Proofs.Tryz.f23 cod 3 [(A.v (V.one (L.ptr (0 : Nat) (0 : Nat))), some { e := (26 : Nat), cont := Cont.cells [S.sc (Value.bool b0), S.ints IntKind.u64 xs1] }), (A.v (V.one (L.ptr (1 : Nat) (0 : Nat))), some { e := (26 : Nat), cont := Cont.cells [S.sc (Value.bool b2), S.ints IntKind.u64 xs3] }), (A.v (V.one (L.ptr (2 : Nat) (0 : Nat))), some { e := (26 : Nat), cont := Cont.cells [S.sc (Value.bool b4), S.sc (Value.slice none (0 : Nat) (0 : Nat))] })]
theorem start (a1 : Bool) (a2 : List Int) (b1 : Bool) (b2 : List Int) : evalFn E Go.Proofs.Tryz.f23 cod [D.agg [S.sc (Value.bool a1), S.ints IntKind.u64 a2], D.agg [S.sc (Value.bool b1), S.ints IntKind.u64 b2]] = gif ((a1, a2).snd.length ≤ (1099511627776 : Nat)) (bcase (!MForm.formI (a1, a2)) (some [D.agg [S.sc (Value.bool false), S.sc (Value.slice none (0 : Nat) (0 : Nat))], D.s (S.sc (Value.int IntKind.i64 (2 : Int)))]) (gif ((b1, b2).snd.length ≤ (1099511627776 : Nat)) (bcase (!MForm.formI (b1, b2)) (some [D.agg [S.sc (Value.bool false), S.sc (Value.slice none (0 : Nat) (0 : Nat))], D.s (S.sc (Value.int IntKind.i64 (2 : Int)))]) (MMod.J3 a1 a2 b1 b2 false)))) := (evalFn_J rfl nok _).trans (by kernel_rfl)
theorem J3_eq (b0 : Bool) (xs1 : List Int) (b2 : Bool) (xs3 : List Int) (b4 : Bool) : J3 b0 xs1 b2 xs3 b4 = bcase ((↑xs3.length : Int) == (0 : Int)) (some [D.agg [S.sc (Value.bool false), S.sc (Value.slice none (0 : Nat) (0 : Nat))], D.s (S.sc (Value.int IntKind.i64 (4 : Int)))]) (gif (M6.Nrm xs1 ∧ xs1.length ≤ (8192 : Nat) ∧ M6.Nrm xs3 ∧ xs3.length = (1 : Nat)) (bcase (b0 != b2) (bcase (decide ((0 : Int) < (↑(M6.dg (M6.val xs1 % M6.val xs3)).length : Int))) (gif (M6.Nrm xs3 ∧ M6.Nrm (M6.dg (M6.val xs1 % M6.val xs3)) ∧ xs3.length ≤ (8192 : Nat) ∧ (M6.dg (M6.val xs1 % M6.val xs3)).length ≤ (8192 : Nat)) (gif (M6.Nrm (M6.dg (M6.val xs3 - M6.val (M6.dg (M6.val xs1 % M6.val xs3)))) ∧ (M6.dg (M6.val xs3 - M6.val (M6.dg (M6.val xs1 % M6.val xs3)))).length ≤ (1099511627776 : Nat)) (some [D.agg [S.sc (Value.bool (isNeg (bif (if M6.val xs3 < M6.val (M6.dg (M6.val xs1 % M6.val xs3)) then (3 : Int) else (0 : Int)) == (0 : Int) then zs b2 (M6.val (M6.dg (M6.val xs3 - M6.val (M6.dg (M6.val xs1 % M6.val xs3))))) else (0 : Int)))), S.ints IntKind.u64 (M6.dg (bif (if M6.val xs3 < M6.val (M6.dg (M6.val xs1 % M6.val xs3)) then (3 : Int) else (0 : Int)) == (0 : Int) then zs b2 (M6.val (M6.dg (M6.val xs3 - M6.val (M6.dg (M6.val xs1 % M6.val xs3))))) else (0 : Int)).natAbs)], D.s (S.sc (Value.int IntKind.i64 (if M6.val xs3 < M6.val (M6.dg (M6.val xs1 % M6.val xs3)) then (3 : Int) else (0 : Int))))]))) (gif (M6.Nrm (M6.dg (M6.val xs1 % M6.val xs3)) ∧ (M6.dg (M6.val xs1 % M6.val xs3)).length ≤ (1099511627776 : Nat)) (some [D.agg [S.sc (Value.bool (isNeg (zs b2 (M6.val (M6.dg (M6.val xs1 % M6.val xs3)))))), S.ints IntKind.u64 (M6.dg (zs b2 (M6.val (M6.dg (M6.val xs1 % M6.val xs3)))).natAbs)], D.s (S.sc (Value.int IntKind.i64 (0 : Int)))]))) (gif (M6.Nrm (M6.dg (M6.val xs1 % M6.val xs3)) ∧ (M6.dg (M6.val xs1 % M6.val xs3)).length ≤ (1099511627776 : Nat)) (some [D.agg [S.sc (Value.bool (isNeg (zs b2 (M6.val (M6.dg (M6.val xs1 % M6.val xs3)))))), S.ints IntKind.u64 (M6.dg (zs b2 (M6.val (M6.dg (M6.val xs1 % M6.val xs3)))).natAbs)], D.s (S.sc (Value.int IntKind.i64 (0 : Int)))])))) := (cutAt_J rfl nok 3 _).trans (by kernel_rfl)
-- stuck: 0
end MMod
namespace MMod
noncomputable def sp (x y : Bool × List Int) : Prop × List D := (Wok x ∧ Wok y ∧ y.1 = false ∧ y.2.length = 1, [wD (wv x % wv y), .s (.sc (.int .i64 0))])
theorem spec (x y : Bool × List Int) (h : (sp x y).1) : evalFn E Tryz.f23 cod [(pG (.pair sB (sI .u64))).put x, (pG (.pair sB (sI .u64))).put y] = some (sp x y).2 := by
  obtain ⟨hx, hy, hn, h1⟩ := h
  refine (start x.1 x.2 y.1 y.2).trans ?_
  have l1 := hx.len
  have l2 := hy.len
  have f1 := MForm.form_ok hx
  have f2 := MForm.form_ok hy
  have b2 := hy.bl
  obtain ⟨p, a⟩ := x
  obtain ⟨q, b⟩ := y
  have n1 : M6.Nrm a := hx.1
  have n2 : M6.Nrm b := hy.1
  dsimp only at *
  subst hn
  unfold sp
  dsimp only
  have hz : M6.val b ≠ 0 := fun h => by have := (M6.len_zero n2).2 h; omega
  have hm := Nat.mod_lt (M6.val a) (show 0 < M6.val b by omega)
  have hl := len6_bl (n := M6.val a % M6.val b) (k := 8192) (Nat.le_trans (bl_mono (Nat.le_of_lt hm)) b2)
  have hl' := len6_bl (n := M6.val b - M6.val a % M6.val b) (k := 8192) (Nat.le_trans (bl_mono (Nat.sub_le _ _)) b2)
  have hb : wv (false, b) = (M6.val b : Int) := wv_pos (x := (false, b)) rfl
  have zf : ∀ n : Nat, zs false n = (n : Int) := fun n => rfl
  rw [gP (by omega), f1, Bool.not_true, bF, gP (by omega), f2, Bool.not_true, bF, J3_eq, bE_neg (by omega), gP ⟨n1, l1, n2, h1⟩]
  simp only [M6.val_dg]
  cases p with
  | false =>
    have ha : wv (false, a) = (M6.val a : Int) := wv_pos (x := (false, a)) rfl
    rw [show (false != false) = false from rfl, bF, gP ⟨M6.nrm_dg _, by omega⟩, ha, hb, ← Int.natCast_emod]
    rfl
  | true =>
    have ha : wv (true, a) = -(M6.val a : Int) := wv_neg (x := (true, a)) rfl
    rw [show (true != false) = true from rfl, bT]
    by_cases hr : M6.val a % M6.val b = 0
    · have e0 : -(M6.val a : Int) % (M6.val b : Int) = 0 := by
        have hdm := Nat.div_add_mod (M6.val a) (M6.val b)
        rw [hr, Nat.add_zero] at hdm
        rw [← hdm, Int.natCast_mul, ← Int.mul_neg]
        exact Int.mul_emod_right _ _
      rw [hr, M6.dg_zero, bD_neg (by simp), gP ⟨M6.nrm_nil, by simp⟩, ha, hb, e0]
      rfl
    · have hd : (M6.dg (M6.val a % M6.val b)).length ≠ 0 := fun h => hr (M6.dg_len_zero.1 h)
      have e0 : -(M6.val a : Int) % (M6.val b : Int) = ((M6.val b - M6.val a % M6.val b : Nat) : Int) := by
        have hdm := Nat.div_add_mod (M6.val a) (M6.val b)
        have e1 : -(M6.val a : Int) = ((M6.val b - M6.val a % M6.val b : Nat) : Int) + (M6.val b : Int) * (-(((M6.val a / M6.val b + 1 : Nat)) : Int)) := by
          have e2 : ((M6.val b * (M6.val a / M6.val b) + M6.val a % M6.val b : Nat) : Int) = (M6.val a : Int) := by rw [hdm]
          rw [Int.natCast_add, Int.natCast_mul] at e2
          rw [Int.mul_neg, Int.natCast_add, Int.mul_add]
          generalize M6.val a % M6.val b = r at *
          generalize (M6.val b : Int) * ((M6.val a / M6.val b : Nat) : Int) = z at *
          omega
        rw [e1, Int.add_mul_emod_self_left]
        exact Int.emod_eq_of_lt (by omega) (by omega)
      rw [bD_pos (by omega), gP ⟨n2, M6.nrm_dg _, l2, hl⟩, gP ⟨M6.nrm_dg _, by omega⟩, if_neg (by omega), ha, hb, e0]
      rfl

noncomputable def orc : Orc := orc2 (pG (.pair sB (sI .u64))) (pG (.pair sB (sI .u64))) sp
theorem fnok : FnOk Tryz.prog E 23 Tryz.f23 cod := fnOk ty_ok mixed (callsOk_of _ rfl (orcs_cons MForm.ok (orcs_cons QuoRem.ok (orcs_cons NSub.ok (orcs_cons MTold.ok orcs_nil)))) (ext_ok)) Tryz.func23 rfl rfl rfl
theorem ok : OrcOk Tryz.prog base.glob 23 orc := fnok.ok2 rfl spec
end MMod
end Go.Proofs.YtfebndgmmekmgaaGreatDoor.W

/- gnomon/num.Small -/
namespace Go.Proofs.YtfebndgmmekmgaaGreatDoor.W
open Go Go.Proofs.YtfebndgmmekmgaaGreatDoor.AI Go.Proofs.YtfebndgmmekmgaaGreatDoor.M
namespace MSmall
noncomputable def E : Env := { ({ base with C := callsOf [(60, MForm.orc)] }) with nt := 40, own := [], keep := fun k => (tlook [] k).getD [], cut := tlook [(8, [1, 4])] }
noncomputable def cod : Code := (Go.Proofs.Tryz.f25.body).getD .skip
theorem nok : namesOk E cod = true := by kernel_rfl
noncomputable def J8 (b0 : Bool) (xs1 : List Int) (x2 : Int) : Option (List D) := ctO E Go.Proofs.Tryz.f25 cod 8 [(A.v (V.one (L.ptr (0 : Nat) (0 : Nat))), some { e := (26 : Nat), cont := Cont.cells [S.sc (Value.bool b0), S.ints IntKind.u64 xs1] }), (A.v (V.one (L.s (S.sc (Value.int IntKind.u64 x2)))), none)]
theorem start (a1 : Bool) (a2 : List Int) : evalFn E Go.Proofs.Tryz.f25 cod [D.agg [S.sc (Value.bool a1), S.ints IntKind.u64 a2]] = gif ((a1, a2).snd.length ≤ (1099511627776 : Nat)) (bcase (!MForm.formI (a1, a2)) (some [D.s (S.sc (Value.int IntKind.i64 (0 : Int))), D.s (S.sc (Value.int IntKind.i64 (2 : Int)))]) (bcase ((↑a2.length : Int) == (0 : Int)) (some [D.s (S.sc (Value.int IntKind.i64 (0 : Int))), D.s (S.sc (Value.int IntKind.i64 (0 : Int)))]) (if (0 : Int) ≤ (0 : Int) ∧ (0 : Int) < (↑a2.length : Int) then bcase (decide ((1 : Int) < (↑a2.length : Int))) (some [D.s (S.sc (Value.int IntKind.i64 (0 : Int))), D.s (S.sc (Value.int IntKind.i64 (5 : Int)))]) (bcase (decide ((9223372036854775808 : Int) < a2.getD (0 : Nat) (0 : Int))) (some [D.s (S.sc (Value.int IntKind.i64 (0 : Int))), D.s (S.sc (Value.int IntKind.i64 (5 : Int)))]) (bcase (a2.getD (0 : Nat) (0 : Int) == (9223372036854775808 : Int)) (bcase (!a1) (some [D.s (S.sc (Value.int IntKind.i64 (0 : Int))), D.s (S.sc (Value.int IntKind.i64 (5 : Int)))]) (MSmall.J8 a1 a2 (a2.getD (0 : Nat) (0 : Int)))) (MSmall.J8 a1 a2 (a2.getD (0 : Nat) (0 : Int))))) else none))) := (evalFn_J rfl nok _).trans (by kernel_rfl)
theorem J8_eq (b0 : Bool) (xs1 : List Int) (x2 : Int) : J8 b0 xs1 x2 = bcase b0 (some [D.s (S.sc (Value.int IntKind.i64 (IntKind.i64.wrap (IntKind.u64.wrap ((0 : Int) - x2))))), D.s (S.sc (Value.int IntKind.i64 (0 : Int)))]) (some [D.s (S.sc (Value.int IntKind.i64 (IntKind.i64.wrap x2))), D.s (S.sc (Value.int IntKind.i64 (0 : Int)))]) := (cutAt_J rfl nok 8 _).trans (by kernel_rfl)
-- stuck: 0
end MSmall
namespace MSmall
/-- Does a number fit a machine's word? -/
def smallB (z : Int) : Bool := decide (-9223372036854775808 ≤ z) && decide (z < 9223372036854775808)
noncomputable def sp (x : Bool × List Int) : Prop × List D := (Wok x, [.s (.sc (.int .i64 (bif smallB (wv x) then wv x else 0))), .s (.sc (.int .i64 (bif smallB (wv x) then 0 else 5)))])
theorem spec (x : Bool × List Int) (h : (sp x).1) : evalFn E Tryz.f25 cod [(pG (.pair sB (sI .u64))).put x] = some (sp x).2 := by
  have h : Wok x := h
  refine (start x.1 x.2).trans ?_
  obtain ⟨b, a⟩ := x
  have hl : a.length ≤ 8192 := h.len
  have h1 : M6.Nrm a := h.1
  have g := h1.dig.get 0
  have hf := MForm.form_ok h
  dsimp only
  unfold sp
  dsimp only
  rw [gP (by omega), hf, Bool.not_true, bF]
  have yes : ∀ z : Int, -9223372036854775808 ≤ z → z < 9223372036854775808 → smallB z = true := fun z h h' => by unfold smallB; rw [decide_eq_true h, decide_eq_true h']; rfl
  have no : ∀ z : Int, (z < -9223372036854775808 ∨ 9223372036854775808 ≤ z) → smallB z = false := fun z h => by
    unfold smallB
    rcases h with h | h
    · rw [decide_eq_false (by omega), Bool.false_and]
    · rw [decide_eq_false (show ¬ z < _ by omega), Bool.and_false]
  by_cases hz : a.length = 0
  · have hv := (M6.len_zero h1).1 hz
    have : wv (b, a) = 0 := by
      have := wv_abs (b, a)
      rw [show M6.val (b, a).2 = 0 from hv] at this
      omega
    rw [bE_pos (by omega), this]
    rfl
  · rw [bE_neg (by omega), if_pos ⟨by omega, by omega⟩]
    have hvz : M6.val a ≠ 0 := fun h => hz ((M6.len_zero h1).2 h)
    have habs := wv_abs (b, a)
    dsimp only at habs
    by_cases h2 : 1 < a.length
    · have hge : 18446744073709551616 ≤ M6.val a := by
        have := M6.ge_of_len (n := M6.val a) (k := 1) (by rw [nrm6_len h1]; exact h2)
        omega
      rw [bD_pos (by omega), no _ (by omega)]
      rfl
    · have hv : M6.val a = (a.getD 0 0).toNat := by
        have := M6.val_take_one (a := a) 0
        rw [M6.val_take_ge (by omega)] at this
        simpa [M6.val] using this
      rw [bD_neg (by omega)]
      generalize a.getD 0 0 = w at *
      by_cases h3 : 9223372036854775808 < w
      · rw [bD_pos h3, no _ (by omega)]
        rfl
      · rw [bD_neg h3, J8_eq]
        cases b with
        | true =>
          have hw : wv (true, a) = -(M6.val a : Int) := wv_neg (x := (true, a)) rfl
          have e1 : IntKind.i64.wrap (IntKind.u64.wrap (0 - w)) = wv (true, a) := by rw [hw, wrap_u64_eq, wrap_i64_eq]; omega
          rw [yes _ (by omega) (by omega), Bool.not_true, bF, bT, e1]
          unfold bcase
          cases (w == 9223372036854775808) <;> rfl
        | false =>
          have hw : wv (false, a) = (M6.val a : Int) := wv_pos (x := (false, a)) rfl
          rw [Bool.not_false, bT, bF]
          by_cases h4 : w = 9223372036854775808
          · rw [bE_pos h4, no _ (by omega)]
            rfl
          · rw [bE_neg h4, yes _ (by omega) (by omega), wrap_i64 (by omega) (by omega)]
            rw [show w = wv (false, a) from by omega]
            rfl

noncomputable def orc : Orc := orc1 (pG (.pair sB (sI .u64))) sp
theorem fnok : FnOk Tryz.prog E 25 Tryz.f25 cod := fnOk ty_ok mixed (callsOk_of _ rfl (orcs_cons MForm.ok orcs_nil) (ext_ok)) Tryz.func25 rfl rfl rfl
theorem ok : OrcOk Tryz.prog base.glob 25 orc := fnok.ok1 rfl spec
end MSmall
end Go.Proofs.YtfebndgmmekmgaaGreatDoor.W

/- gnomon/turn.mod4 -/
namespace Go.Proofs.YtfebndgmmekmgaaGreatDoor.W
open Go Go.Proofs.YtfebndgmmekmgaaGreatDoor.AI Go.Proofs.YtfebndgmmekmgaaGreatDoor.M
namespace UMod4
noncomputable def E : Env := { ({ base with C := callsOf [(24, MOf.orc), (23, MMod.orc), (25, MSmall.orc)] }) with nt := 19, own := [15], keep := fun k => (tlook [] k).getD [], cut := tlook [] }
noncomputable def cod : Code := (Go.Proofs.Tryz.f34.body).getD .skip
theorem nok : namesOk E cod = true := by kernel_rfl
theorem start (a1 : Bool) (a2 : List Int) : evalFn E Go.Proofs.Tryz.f34 cod [D.agg [S.sc (Value.bool a1), S.ints IntKind.u64 a2]] = gif ((-9223372036854775808 : Int) ≤ (4 : Int) ∧ (4 : Int) < (9223372036854775808 : Int)) (gif (Wok (a1, a2) ∧ Wok (isNeg (4 : Int), M6.dg (4 : Nat)) ∧ (isNeg (4 : Int), M6.dg (4 : Nat)).fst = false ∧ (isNeg (4 : Int), M6.dg (4 : Nat)).snd.length = (1 : Nat)) (gif (Wok (isNeg (wv (a1, a2) % wv (isNeg (4 : Int), M6.dg (4 : Nat))), M6.dg (wv (a1, a2) % wv (isNeg (4 : Int), M6.dg (4 : Nat))).natAbs)) (some [D.s (S.sc (Value.int IntKind.i64 (bif MSmall.smallB (wv (isNeg (wv (a1, a2) % wv (isNeg (4 : Int), M6.dg (4 : Nat))), M6.dg (wv (a1, a2) % wv (isNeg (4 : Int), M6.dg (4 : Nat))).natAbs)) then wv (isNeg (wv (a1, a2) % wv (isNeg (4 : Int), M6.dg (4 : Nat))), M6.dg (wv (a1, a2) % wv (isNeg (4 : Int), M6.dg (4 : Nat))).natAbs) else (0 : Int))))]))) := (evalFn_J rfl nok _).trans (by kernel_rfl)
-- stuck: 0
end UMod4
namespace UMod4
noncomputable def sp (x : Bool × List Int) : Prop × List D := (Wok x, [.s (.sc (.int .i64 (wv x % 4)))])
theorem spec (x : Bool × List Int) (h : (sp x).1) : evalFn E Tryz.f34 cod [(pG (.pair sB (sI .u64))).put x] = some (sp x).2 := by
  have h : Wok x := h
  have e4 : wv (isNeg 4, M6.dg 4) = 4 := wv_wD 4
  have w4 : Wok (isNeg 4, M6.dg 4) := wok_wD (z := 4) (Nat.le_trans (bl_le.2 (show (4 : Int).natAbs < 2 ^ 3 by decide)) (by omega))
  have l4 : (M6.dg 4).length = 1 := by
    have h1 := M6.len_dg_le (n := 4) (k := 1) (by decide)
    have h2 : (M6.dg 4).length ≠ 0 := fun h => by have := M6.dg_len_zero.1 h; omega
    omega
  have hr : 0 ≤ wv x % 4 ∧ wv x % 4 < 4 := by omega
  refine (start x.1 x.2).trans ?_
  rw [gP (by omega), gP ⟨h, w4, rfl, l4⟩, e4, wv_wD]
  show gif _ _ = some [D.s (.sc (.int .i64 (wv x % 4)))]
  generalize wv (x.1, x.2) % 4 = r at *
  rw [gP (wok_wD (Nat.le_trans (bl_le.2 (show r.natAbs < 2 ^ 3 by omega)) (by omega)))]
  have : MSmall.smallB r = true := by unfold MSmall.smallB; rw [decide_eq_true (by omega), decide_eq_true (by omega)]; rfl
  rw [this]
  rfl

noncomputable def orc : Orc := orc1 (pG (.pair sB (sI .u64))) sp
theorem fnok : FnOk Tryz.prog E 34 Tryz.f34 cod := fnOk ty_ok mixed (callsOk_of _ rfl (orcs_cons MOf.ok (orcs_cons MMod.ok (orcs_cons MSmall.ok orcs_nil))) (ext_ok)) Tryz.func34 rfl rfl rfl
theorem ok : OrcOk Tryz.prog base.glob 34 orc := fnok.ok1 rfl spec
end UMod4
end Go.Proofs.YtfebndgmmekmgaaGreatDoor.W

/- gnomon/turn.Reduce -/
namespace Go.Proofs.YtfebndgmmekmgaaGreatDoor.W
open Go Go.Proofs.YtfebndgmmekmgaaGreatDoor.AI Go.Proofs.YtfebndgmmekmgaaGreatDoor.M
namespace UReduce
noncomputable def E : Env := { ({ base with C := callsOf [(15, BValue.orc), (17, DScale.orc), (31, DAdd.orc), (32, UDyad.orc), (33, DDownAt.orc), (16, DSub.orc), (22, MShl.orc), (34, UMod4.orc)] }) with nt := 71, own := [22, 68], keep := fun k => (tlook [] k).getD [], cut := tlook [] }
noncomputable def cod : Code := (Go.Proofs.Tryz.f9.body).getD .skip
theorem nok : namesOk E cod = true := by kernel_rfl
theorem start (a : Int) : evalFn E Go.Proofs.Tryz.f9 cod [D.s (S.sc (Value.int IntKind.u64 a))] = gif (((64 : Int) = (32 : Int) ∨ (64 : Int) = (64 : Int)) ∧ (0 : Int) ≤ a ∧ a < (18446744073709551616 : Int))
  (vlet (isNeg (bif BTake.patB (64 : Int) a && BFinite.finB (64 : Int) a then nrmD (BValue.valZ (64 : Int) a) (BValue.valE (64 : Int) a) else ((0 : Int), (0 : Int))).fst) fun y0 ↦
    vlet (M6.dg (bif BTake.patB (64 : Int) a && BFinite.finB (64 : Int) a then nrmD (BValue.valZ (64 : Int) a) (BValue.valE (64 : Int) a) else ((0 : Int), (0 : Int))).fst.natAbs) fun y1 ↦
      vlet (bif BTake.patB (64 : Int) a && BFinite.finB (64 : Int) a then nrmD (BValue.valZ (64 : Int) a) (BValue.valE (64 : Int) a) else ((0 : Int), (0 : Int))).snd fun y2 ↦
        vlet (bif BTake.patB (64 : Int) a then bif BFinite.finB (64 : Int) a then (0 : Int) else (6 : Int) else (2 : Int)) fun y3 ↦
          bcase (y3 != (0 : Int)) (some [D.s (S.sc (Value.int IntKind.i64 (0 : Int))), D.agg [S.sc (Value.bool false), S.sc (Value.slice none (0 : Nat) (0 : Nat)), S.sc (Value.int IntKind.i64 (0 : Int))], D.s (S.sc (Value.int IntKind.i64 y3))])
            (gif (DyOk (y0, y1, y2) ∧ (-9223372036854775808 : Int) ≤ (1 : Int) ∧ (1 : Int) < (9223372036854775808 : Int))
              (vlet (isNeg (bif DScale.scOk (dv (y0, y1, y2)) (1 : Int) then DScale.scD (dv (y0, y1, y2)) (1 : Int) else ((0 : Int), (0 : Int))).fst) fun y4 ↦
                vlet (M6.dg (bif DScale.scOk (dv (y0, y1, y2)) (1 : Int) then DScale.scD (dv (y0, y1, y2)) (1 : Int) else ((0 : Int), (0 : Int))).fst.natAbs) fun y5 ↦
                  vlet (bif DScale.scOk (dv (y0, y1, y2)) (1 : Int) then DScale.scD (dv (y0, y1, y2)) (1 : Int) else ((0 : Int), (0 : Int))).snd fun y6 => gif (((-9223372036854775808 : Int) ≤ (1 : Int) ∧ (1 : Int) < (9223372036854775808 : Int)) ∧ (-9223372036854775808 : Int) ≤ (-1 : Int) ∧ (-1 : Int) < (9223372036854775808 : Int)) (vlet (isNeg (bif inD (1 : Int) (-1 : Int) then nrmD (1 : Int) (-1 : Int) else ((0 : Int), (0 : Int))).fst) fun y8 => vlet (M6.dg (bif inD (1 : Int) (-1 : Int) then nrmD (1 : Int) (-1 : Int) else ((0 : Int), (0 : Int))).fst.natAbs) fun y9 => vlet (bif inD (1 : Int) (-1 : Int) then nrmD (1 : Int) (-1 : Int) else ((0 : Int), (0 : Int))).snd fun y10 => gif (DyOk (y4, y5, y6) ∧ DyOk (y8, y9, y10)) (vlet (isNeg (bif DAdd.addOk (dv (y4, y5, y6)) (dv (y8, y9, y10)) then DAdd.addD (dv (y4, y5, y6)) (dv (y8, y9, y10)) else ((0 : Int), (0 : Int))).fst) fun y11 => vlet (M6.dg (bif DAdd.addOk (dv (y4, y5, y6)) (dv (y8, y9, y10)) then DAdd.addD (dv (y4, y5, y6)) (dv (y8, y9, y10)) else ((0 : Int), (0 : Int))).fst.natAbs) fun y12 => vlet (bif DAdd.addOk (dv (y4, y5, y6)) (dv (y8, y9, y10)) then DAdd.addD (dv (y4, y5, y6)) (dv (y8, y9, y10)) else ((0 : Int), (0 : Int))).snd fun y13 => gif (DyOk (y11, y12, y13) ∧ (-4611686018427387904 : Int) ≤ (0 : Int) ∧ (0 : Int) < (4611686018427387904 : Int)) (vlet (isNeg (bif DGrid.gridOk (dv (y11, y12, y13)) (0 : Int) then DGrid.gridD (dv (y11, y12, y13)) (0 : Int) else ((0 : Int), (0 : Int))).fst) fun y15 => vlet (M6.dg (bif DGrid.gridOk (dv (y11, y12, y13)) (0 : Int) then DGrid.gridD (dv (y11, y12, y13)) (0 : Int) else ((0 : Int), (0 : Int))).fst.natAbs) fun y16 => vlet (bif DGrid.gridOk (dv (y11, y12, y13)) (0 : Int) then DGrid.gridD (dv (y11, y12, y13)) (0 : Int) else ((0 : Int), (0 : Int))).snd fun y17 => gif (DyOk (y15, y16, y17) ∧ (-9223372036854775808 : Int) ≤ (-1 : Int) ∧ (-1 : Int) < (9223372036854775808 : Int)) (vlet (isNeg (bif DScale.scOk (dv (y15, y16, y17)) (-1 : Int) then DScale.scD (dv (y15, y16, y17)) (-1 : Int) else ((0 : Int), (0 : Int))).fst) fun y19 => vlet (M6.dg (bif DScale.scOk (dv (y15, y16, y17)) (-1 : Int) then DScale.scD (dv (y15, y16, y17)) (-1 : Int) else ((0 : Int), (0 : Int))).fst.natAbs) fun y20 => vlet (bif DScale.scOk (dv (y15, y16, y17)) (-1 : Int) then DScale.scD (dv (y15, y16, y17)) (-1 : Int) else ((0 : Int), (0 : Int))).snd fun y21 => gif (DyOk (y0, y1, y2) ∧ DyOk (y19, y20, y21)) (vlet (isNeg (bif DAdd.addOk (dv (y0, y1, y2)) (-(dv (y19, y20, y21)).fst, (dv (y19, y20, y21)).snd) then DAdd.addD (dv (y0, y1, y2)) (-(dv (y19, y20, y21)).fst, (dv (y19, y20, y21)).snd) else ((0 : Int), (0 : Int))).fst) fun y23 => vlet (M6.dg (bif DAdd.addOk (dv (y0, y1, y2)) (-(dv (y19, y20, y21)).fst, (dv (y19, y20, y21)).snd) then DAdd.addD (dv (y0, y1, y2)) (-(dv (y19, y20, y21)).fst, (dv (y19, y20, y21)).snd) else ((0 : Int), (0 : Int))).fst.natAbs) fun y24 => vlet (bif DAdd.addOk (dv (y0, y1, y2)) (-(dv (y19, y20, y21)).fst, (dv (y19, y20, y21)).snd) then DAdd.addD (dv (y0, y1, y2)) (-(dv (y19, y20, y21)).fst, (dv (y19, y20, y21)).snd) else ((0 : Int), (0 : Int))).snd fun y25 => bcase (decide (y17 < (2 : Int))) (gif (Wok (y15, y16) ∧ (0 : Int) ≤ y17 ∧ y17 < (4611686018427387904 : Int)) (vlet (isNeg (bif fit (M6.val (y15, y16).snd * (2 : Nat) ^ y17.toNat) then wv (y15, y16) * (↑((2 : Nat) ^ y17.toNat) : Int) else (0 : Int))) fun y27 => vlet (M6.dg (bif fit (M6.val (y15, y16).snd * (2 : Nat) ^ y17.toNat) then wv (y15, y16) * (↑((2 : Nat) ^ y17.toNat) : Int) else (0 : Int)).natAbs) fun y28 => gif (Wok (y27, y28)) (vlet (wv (y27, y28) % (4 : Int)) fun y30 => some [D.s (S.sc (Value.int IntKind.i64 y30)), D.agg [S.sc (Value.bool y23), S.ints IntKind.u64 y24, S.sc (Value.int IntKind.i64 y25)], D.s (S.sc (Value.int IntKind.i64 (0 : Int)))]))) (some [D.s (S.sc (Value.int IntKind.i64 (0 : Int))), D.agg [S.sc (Value.bool y23), S.ints IntKind.u64 y24, S.sc (Value.int IntKind.i64 y25)], D.s (S.sc (Value.int IntKind.i64 (0 : Int)))]))))))))) := (evalFn_J rfl nok _).trans (by kernel_rfl)
-- stuck: 0
end UReduce
namespace UReduce
/-- The floor of 2x + 1/2, of x = p in form; what is left; the remainder. -/
def redK (p : Int × Int) : Int := if 0 ≤ p.2 then p.1 * p2 (p.2 + 1) else (p.1 * 4 + p2 (-p.2)) / p2 (1 - p.2)
def redR (p : Int × Int) : Int := if 0 ≤ p.2 then 0 else p.1 * 2 - redK p * p2 (-p.2)
def redD (p : Int × Int) : Int × Int := nrmD (redR p) (p.2 - 1)
/-- The number of a finite binary64 pattern. -/
def numV (a : Int) : Int × Int := nrmD (BValue.valZ 64 a) (BValue.valE 64 a)
noncomputable def sp (a : Int) : Prop × List D := (0 ≤ a ∧ a < 18446744073709551616, [.s (.sc (.int .i64 (bif BFinite.finB 64 a then redK (numV a) % 4 else 0))), dD (bif BFinite.finB 64 a then redD (numV a) else (0, 0)), .s (.sc (.int .i64 (bif BFinite.finB 64 a then 0 else 6)))])
theorem val_lt {a : Int} (_ : 0 ≤ a) (hf : BFinite.finB 64 a = true) : (BValue.valZ 64 a).natAbs < 2 ^ 53 ∧ -1074 ≤ BValue.valE 64 a ∧ BValue.valE 64 a ≤ 971 := by
  have hn0 : 0 ≤ a % BSign.signV (BShape.shp 64) := by rw [show BSign.signV (BShape.shp 64) = 9223372036854775808 from rfl]; omega
  have hfin : a % BSign.signV (BShape.shp 64) < BInf.infV (BShape.shp 64) := of_decide_eq_true hf
  have hm := BValue.man_lt BShape.two64 hn0
  have hx := BValue.exp_lt BShape.two64 hn0 hfin
  refine ⟨?_, hx.1, ?_⟩
  · unfold BValue.valZ
    rw [zs_abs]
    have := hm.2
    rw [show BShape.shp 64 = (64, 53, -1074, 9221120237041090561) from rfl] at *
    omega
  · unfold BValue.valE BParts.expV
    rw [show BInf.infV (BShape.shp 64) = 9218868437227405312 from rfl] at hfin
    rw [show BHidden.hidV (BShape.shp 64) = 4503599627370496 from rfl]
    rw [show (BShape.shp 64).2.2.1 = -1074 from rfl]
    split <;> omega
theorem num_lt {a : Int} (h0 : 0 ≤ a) (hf : BFinite.finB 64 a = true) : PIn (numV a) ∧ (numV a).1.natAbs < 2 ^ 53 ∧ -1074 ≤ (numV a).2 ∧ (numV a).2 ≤ 1024 := by
  obtain ⟨h1, h2, h3⟩ := val_lt h0 hf
  have hb : bl (BValue.valZ 64 a).natAbs ≤ 53 := bl_le.2 h1
  have ha := nrmD_abs (BValue.valZ 64 a) (BValue.valE 64 a)
  refine ⟨pin_nrm (inD_of (by omega) (by omega)) (by omega), ?_, ?_⟩
  · unfold numV
    omega
  · unfold numV
    by_cases hz : BValue.valZ 64 a = 0
    · rw [hz, nrmD_zero]
      exact ⟨by show (-1074 : Int) ≤ 0; omega, by show (0 : Int) ≤ 1024; omega⟩
    · have := (nrmD_val (e := BValue.valE 64 a) hz).2
      have := tz_bl (n := (BValue.valZ 64 a).natAbs) (by omega)
      omega
theorem spec (a : Int) (h : (sp a).1) : ∃ rs, evalFn E Tryz.f9 cod [(pN .u64).put a] = some rs ∧ RsLe rs (sp a).2 := by
  obtain ⟨h0, h1⟩ := h
  have hp : BTake.patB 64 a = true := rfl
  unfold sp
  dsimp only
  cases hf : BFinite.finB 64 a with
  | false =>
    have s := start a
    rw [gP ⟨.inr rfl, h0, h1⟩, hp, hf, vl, vl, vl, vl, bN_pos (by decide)] at s
    refine ⟨_, s, .cons (RLe.refl _) (.cons ?_ (RsLe.refl _))⟩
    unfold dD
    rw [cond_false, show ((0, 0) : Int × Int).1.natAbs = 0 from rfl, M6.dg_zero]
    exact RLe.agg (.cons (SLe.refl _) (.cons (SLe.nil _) (CsLe.refl _)))
  | true =>
    refine ⟨_, (start a).trans ((gP ⟨.inr rfl, h0, h1⟩).trans ?_), RsLe.refl _⟩
    dsimp only [cond_true]
    have e1 : (bif BTake.patB 64 a && BFinite.finB 64 a then nrmD (BValue.valZ 64 a) (BValue.valE 64 a) else ((0 : Int), (0 : Int))) = numV a := by rw [hp, hf]; rfl
    have e1' : (bif BTake.patB 64 a then bif BFinite.finB 64 a then (0 : Int) else 6 else 2) = 0 := by rw [hp, hf]; rfl
    rw [e1, e1', vl_dy, vl, bN_neg rfl]
    obtain ⟨hpin, hm, he0, he1⟩ := num_lt h0 hf
    generalize numV a = p at *
    obtain ⟨m, e⟩ := p
    have hs : nrmD m e = (m, e) := hpin.same
    dsimp only at hm he0 he1
    have bm : bl m.natAbs ≤ 53 := bl_le.2 hm
    rw [gP ⟨dyok_of hpin, by omega, by omega⟩, dv_cells]
    have bK : bl (redK (m, e)).natAbs ≤ 1100 := by
      unfold redK
      dsimp only
      split
      · have := bl_p2 (n := e + 1) (k := 1025) bm (by omega)
        omega
      · refine bl_div ?_ _
        have b1 := bl_p2 (z := m) (n := 2) (k := 2) bm (by omega)
        have b2 := bl_p2 (z := 1) (n := -e) (k := 1074) bl_one (by omega)
        rw [Int.one_mul] at b2
        exact Nat.le_trans (bl_sum (n := 1075) (Nat.le_trans b1 (by omega)) b2) (by omega)
    have hR : redD (m, e) = nrmD (if 0 ≤ e then 0 else m * 2 - redK (m, e) * p2 (-e)) (e - 1) := rfl
    have hK : redK (m, e) = if 0 ≤ e then m * p2 (e + 1) else (m * 4 + p2 (-e)) / p2 (1 - e) := rfl
    generalize redK (m, e) = K at *
    generalize redD (m, e) = R at *
    rw [← hs]
    have e2 : (bif DScale.scOk (nrmD m e) 1 then DScale.scD (nrmD m e) 1 else ((0 : Int), (0 : Int))) = nrmD m (e + 1) := by
      rw [scOk_nrm (by omega) (by omega), scD_nrm]; rfl
    have e3 : (bif inD 1 (-1) then nrmD 1 (-1) else ((0 : Int), (0 : Int))) = nrmD 1 (-1) := by
      rw [inD_of (by omega) (by have := bl_one; omega)]; rfl
    have p2' : PIn (nrmD m (e + 1)) := pin_nrm (inD_of (by omega) (by omega)) (by omega)
    have p3 : PIn (nrmD 1 (-1)) := pin_nrm (inD_of (by omega) (by have := bl_one; omega)) (by have := bl_one; omega)
    rw [e2, e3, vl_dy, gP ⟨by omega, by omega⟩, vl_dy, gP ⟨dyok_of p2', dyok_of p3⟩, dv_cells, dv_cells]
    -- the sum and its floor
    obtain ⟨S, G, hS, hG0, hG1, hok, hadd, hfl⟩ : ∃ S G : Int, bl S.natAbs ≤ 1100 ∧ -1100 ≤ G ∧ G ≤ -1 ∧ DAdd.addOk (nrmD m (e + 1)) (nrmD 1 (-1)) = true ∧ DAdd.addD (nrmD m (e + 1)) (nrmD 1 (-1)) = nrmD S G ∧ S / p2 (0 - G) = K := by
      by_cases hc : 0 ≤ e
      · have b1 := bl_p2 (z := m) (n := e + 1 - -1) (k := 1026) bm (by omega)
        have b2 := bl_p2 (z := 1) (n := -1 - -1) (k := 0) bl_one (by omega)
        refine ⟨_, -1, Nat.le_trans (bl_sum (n := 1080) (Nat.le_trans b1 (by omega)) (Nat.le_trans b2 (by omega))) (by omega), by omega, by omega, addOk_nrm (G := -1) (by omega) (by omega) (by omega) (by omega) (by omega) (by omega), addD_nrm (by omega) (by omega), ?_⟩
        rw [hK, if_pos hc, show e + 1 - -1 = e + 1 + 1 by omega, p2_add (by omega) (by omega), show p2 (0 - -1) = 2 from rfl, show p2 (-1 - -1) = 1 from rfl, p2_one]
        generalize p2 (e + 1) = q
        rw [← Int.mul_assoc]
        omega
      · have b1 := bl_p2 (z := m) (n := e + 1 - (e - 1)) (k := 2) bm (by omega)
        have b2 := bl_p2 (z := 1) (n := -1 - (e - 1)) (k := 1074) bl_one (by omega)
        refine ⟨_, e - 1, Nat.le_trans (bl_sum (n := 1080) (Nat.le_trans b1 (by omega)) (Nat.le_trans b2 (by omega))) (by omega), by omega, by omega, addOk_nrm (G := e - 1) (by omega) (by omega) (by omega) (by omega) (by omega) (by omega), addD_nrm (by omega) (by omega), ?_⟩
        rw [hK, if_neg hc, show e + 1 - (e - 1) = 2 by omega, show -1 - (e - 1) = -e by omega, Int.one_mul, show p2 2 = 4 from rfl, show 0 - (e - 1) = 1 - e by omega]
    have e4 : (bif DAdd.addOk (nrmD m (e + 1)) (nrmD 1 (-1)) then DAdd.addD (nrmD m (e + 1)) (nrmD 1 (-1)) else ((0 : Int), (0 : Int))) = nrmD S G := by rw [hok, hadd]; rfl
    have p4 : PIn (nrmD S G) := pin_nrm (inD_of (by omega) (by omega)) (by omega)
    have e5 : (bif DGrid.gridOk (nrmD S G) 0 then DGrid.gridD (nrmD S G) 0 else ((0 : Int), (0 : Int))) = nrmD K 0 := by
      rw [gridOk_nrm (by omega) (by omega) (by rw [hfl]; omega), gridD_nrm (by omega), hfl]; rfl
    have p5 : PIn (nrmD K 0) := pin_nrm (inD_of (by omega) (by omega)) (by omega)
    rw [e4, vl_dy, gP ⟨dyok_of p4, by omega, by omega⟩, dv_cells, e5, vl_dy, gP ⟨dyok_of p5, by omega, by omega⟩, dv_cells]
    have e6 : (bif DScale.scOk (nrmD K 0) (-1) then DScale.scD (nrmD K 0) (-1) else ((0 : Int), (0 : Int))) = nrmD K (-1) := by
      rw [scOk_nrm (by omega) (by omega), scD_nrm]; rfl
    have p6 : PIn (nrmD K (-1)) := pin_nrm (inD_of (by omega) (by omega)) (by omega)
    rw [e6, vl_dy, gP ⟨dyok_of (hs ▸ hpin), dyok_of p6⟩, dv_cells, ← nrmD_neg]
    have e7 : (bif DAdd.addOk (nrmD m e) (nrmD (-K) (-1)) then DAdd.addD (nrmD m e) (nrmD (-K) (-1)) else ((0 : Int), (0 : Int))) = R := by
      rw [hR]
      by_cases hc : 0 ≤ e
      · have b1 := bl_p2 (z := m) (n := e - -1) (k := 1026) bm (by omega)
        have b2 := bl_p2 (z := -K) (n := -1 - -1) (k := 0) (bl_neg bK) (by omega)
        rw [addOk_nrm (G := -1) (by omega) (by omega) (by omega) (by omega) (by omega) (by omega), addD_nrm (G := -1) (by omega) (by omega), if_pos hc, hK, if_pos hc, show e - -1 = e + 1 by omega, show p2 (-1 - -1) = 1 from rfl, Int.mul_one]
        rw [show m * p2 (e + 1) + -(m * p2 (e + 1)) = 0 by omega, nrmD_zero, nrmD_zero]
        rfl
      · have b1 := bl_p2 (z := m) (n := e - (e - 1)) (k := 1) bm (by omega)
        have b2 := bl_p2 (z := -K) (n := -1 - (e - 1)) (k := 1074) (bl_neg bK) (by omega)
        rw [addOk_nrm (G := e - 1) (by omega) (by omega) (by omega) (by omega) (by omega) (by omega), addD_nrm (G := e - 1) (by omega) (by omega), if_neg hc, show e - (e - 1) = 1 by omega, show -1 - (e - 1) = -e by omega, p2_one, Int.neg_mul, ← Int.sub_eq_add_neg]
        rfl
    rw [e7, vl_dy]
    have gK := nrmD_grid0 (z := K) (e := 0) (G := 0) (by omega)
    rw [Int.sub_self, Int.sub_zero, p2_zero, Int.mul_one] at gK
    have hk0 : 0 ≤ (nrmD K 0).2 := by
      by_cases hz : K = 0
      · rw [hz, nrmD_zero]; exact Int.le_refl 0
      · exact nrmD_ge hz
    have hvK : M6.val (M6.dg (nrmD K 0).1.natAbs) = (nrmD K 0).1.natAbs := M6.val_dg _
    have hfit : fit (M6.val (M6.dg (nrmD K 0).1.natAbs) * 2 ^ (nrmD K 0).2.toNat) = true := by
      rw [hvK, ← abs_p2, gK]
      exact decide_eq_true (by omega)
    by_cases hc : (nrmD K 0).2 < 2
    · rw [bD_pos hc, gP ⟨(dyok_of p5).wok, by omega, by omega⟩, wv_wD, hfit]
      have e8 : (bif true then (nrmD K 0).1 * ((2 ^ (nrmD K 0).2.toNat : Nat) : Int) else (0 : Int)) = K := gK
      rw [e8, vl, vl, gP (wok_wD (by omega)), wv_wD, vl]
      rfl
    · rw [bD_neg hc]
      have : K % 4 = 0 := by
        have e9 : p2 (nrmD K 0).2 = p2 ((nrmD K 0).2 - 2) * 4 := by
          have := p2_add (m := (nrmD K 0).2 - 2) (n := 2) (by omega) (by omega)
          rwa [show (nrmD K 0).2 - 2 + 2 = (nrmD K 0).2 by omega] at this
        rw [e9, ← Int.mul_assoc] at gK
        generalize (nrmD K 0).1 * p2 ((nrmD K 0).2 - 2) = q at *
        omega
      rw [this]
      rfl

noncomputable def orc : Orc := orc1 (pN .u64) sp
theorem fnok : FnOk Tryz.prog E 9 Tryz.f9 cod := fnOk ty_ok mixed (callsOk_of _ rfl (orcs_cons BValue.ok (orcs_cons DScale.ok (orcs_cons DAdd.ok (orcs_cons UDyad.ok (orcs_cons DDownAt.ok (orcs_cons DSub.ok (orcs_cons MShl.ok (orcs_cons UMod4.ok orcs_nil)))))))) (ext_ok)) Tryz.func9 rfl rfl rfl
theorem ok : OrcOk Tryz.prog base.glob 9 orc := fnok.wk1 rfl spec
end UReduce
end Go.Proofs.YtfebndgmmekmgaaGreatDoor.W

/- gnomon/binary.Quiet -/
namespace Go.Proofs.YtfebndgmmekmgaaGreatDoor.W
open Go Go.Proofs.YtfebndgmmekmgaaGreatDoor.AI Go.Proofs.YtfebndgmmekmgaaGreatDoor.M
namespace BQuiet
noncomputable def E : Env := { ({ base with C := callsOf [(67, BShape.orc)] }) with nt := 12, own := [], keep := fun k => (tlook [] k).getD [], cut := tlook [] }
noncomputable def cod : Code := (Go.Proofs.Tryz.f26.body).getD .skip
theorem nok : namesOk E cod = true := by kernel_rfl
theorem start (a : Int) : evalFn E Go.Proofs.Tryz.f26 cod [D.s (S.sc (Value.int IntKind.i64 a))] = gif True (bcase ((BShape.shp a).fst == (0 : Int) && ((BShape.shp a).snd.fst == (0 : Int) && ((BShape.shp a).snd.snd.fst == (0 : Int) && ((BShape.shp a).snd.snd.snd == (0 : Int) && true)))) (some [D.s (S.sc (Value.int IntKind.u64 (0 : Int))), D.s (S.sc (Value.int IntKind.i64 (1 : Int)))]) (some [D.s (S.sc (Value.int IntKind.u64 (BShape.shp a).snd.snd.snd)), D.s (S.sc (Value.int IntKind.i64 (0 : Int)))])) := (evalFn_J rfl nok _).trans (by kernel_rfl)
-- stuck: 0
end BQuiet
namespace BQuiet
/-- Is it a format? -/
def fmtB (f : Int) : Bool := decide (f = 32 ∨ f = 64)
noncomputable def sp (f : Int) : Prop × List D := (True, [.s (.sc (.int .u64 (BShape.shp f).2.2.2)), .s (.sc (.int .i64 (bif fmtB f then 0 else 1)))])
theorem spec (f : Int) (h : (sp f).1) : evalFn E Tryz.f26 cod [(pN .i64).put f] = some (sp f).2 := by
  refine (start f).trans ((gP trivial).trans ?_)
  unfold sp fmtB
  dsimp only
  by_cases h1 : f = 32
  · subst h1; rfl
  · by_cases h2 : f = 64
    · subst h2; rfl
    · have : BShape.shp f = (0, 0, 0, 0) := by unfold BShape.shp; rw [if_neg h1, if_neg h2]
      rw [this, decide_eq_false (by omega)]
      rfl

noncomputable def orc : Orc := orc1 (pN .i64) sp
theorem fnok : FnOk Tryz.prog E 26 Tryz.f26 cod := fnOk ty_ok mixed (callsOk_of _ rfl (orcs_cons BShape.ok orcs_nil) (ext_ok)) Tryz.func26 rfl rfl rfl
theorem ok : OrcOk Tryz.prog base.glob 26 orc := fnok.ok1 rfl spec
end BQuiet
end Go.Proofs.YtfebndgmmekmgaaGreatDoor.W

/- gnomon/turn.known -/
namespace Go.Proofs.YtfebndgmmekmgaaGreatDoor.W
open Go Go.Proofs.YtfebndgmmekmgaaGreatDoor.AI Go.Proofs.YtfebndgmmekmgaaGreatDoor.M
namespace UKnown
noncomputable def E : Env := { (base) with nt := 13, own := [], keep := fun k => (tlook [] k).getD [], cut := tlook [] }
noncomputable def cod : Code := (Go.Proofs.Tryz.f40.body).getD .skip
theorem nok : namesOk E cod = true := by kernel_rfl
theorem start (a : Int) : evalFn E Go.Proofs.Tryz.f40 cod [D.s (S.sc (Value.int IntKind.i64 a))] = bcase (a == (4 : Int)) (some [D.s (S.sc (Value.bool true))]) (bcase (a == (5 : Int)) (some [D.s (S.sc (Value.bool true))]) (some [D.s (S.sc (Value.bool (a == (6 : Int))))])) := (evalFn_J rfl nok _).trans (by kernel_rfl)
-- stuck: 0
end UKnown
namespace UKnown
def knownB (a : Int) : Bool := decide (a = 4 ∨ a = 5 ∨ a = 6)
noncomputable def sp (a : Int) : Prop × List D := (True, [.s (.sc (.bool (knownB a)))])
theorem spec (a : Int) (h : (sp a).1) : evalFn E Tryz.f40 cod [(pN .i64).put a] = some (sp a).2 := by
  refine (start a).trans ?_
  unfold sp knownB
  dsimp only
  by_cases h1 : a = 4
  · rw [bE_pos h1, decide_eq_true (by omega)]
  · rw [bE_neg h1]
    by_cases h2 : a = 5
    · rw [bE_pos h2, decide_eq_true (by omega)]
    · rw [bE_neg h2]
      by_cases h3 : a = 6
      · rw [beq_iff_eq.2 h3, decide_eq_true (by omega)]
      · rw [beq_eq_false_iff_ne.2 h3, decide_eq_false (by omega)]

noncomputable def orc : Orc := orc1 (pN .i64) sp
theorem fnok : FnOk Tryz.prog E 40 Tryz.f40 cod := fnOk ty_ok mixed (callsOk_of _ rfl orcs_nil (ext_ok)) Tryz.func40 rfl rfl rfl
theorem ok : OrcOk Tryz.prog base.glob 40 orc := fnok.ok1 rfl spec
end UKnown
end Go.Proofs.YtfebndgmmekmgaaGreatDoor.W

/- (gnomon/binary.shape).class -/
namespace Go.Proofs.YtfebndgmmekmgaaGreatDoor.W
open Go Go.Proofs.YtfebndgmmekmgaaGreatDoor.AI Go.Proofs.YtfebndgmmekmgaaGreatDoor.M
namespace BClass
noncomputable def E : Env := { ({ base with C := callsOf [(98, BHidden.orc), (97, BInf.orc)] }) with nt := 23, own := [], keep := fun k => (tlook [] k).getD [], cut := tlook [] }
noncomputable def cod : Code := (Go.Proofs.Tryz.f92.body).getD .skip
theorem nok : namesOk E cod = true := by kernel_rfl
theorem start (a1 : Int) (a2 : Int) (a3 : Int) (a4 : Int) (b : Int) : evalFn E Go.Proofs.Tryz.f92 cod [D.agg [S.sc (Value.int IntKind.i64 a1), S.sc (Value.int IntKind.i64 a2), S.sc (Value.int IntKind.i64 a3), S.sc (Value.int IntKind.u64 a4)], D.s (S.sc (Value.int IntKind.u64 b))] = bcase (b == (0 : Int)) (some [D.s (S.sc (Value.int IntKind.i64 (0 : Int)))]) (gif (BShape.Two (a1, a2, a3, a4)) (bcase (decide (b < BHidden.hidV (a1, a2, a3, a4))) (some [D.s (S.sc (Value.int IntKind.i64 (1 : Int)))]) (gif (BShape.Two (a1, a2, a3, a4)) (bcase (decide (b < BInf.infV (a1, a2, a3, a4))) (some [D.s (S.sc (Value.int IntKind.i64 (2 : Int)))]) (gif (BShape.Two (a1, a2, a3, a4)) (bcase (b == BInf.infV (a1, a2, a3, a4)) (some [D.s (S.sc (Value.int IntKind.i64 (3 : Int)))]) (some [D.s (S.sc (Value.int IntKind.i64 (4 : Int)))]))))))) := (evalFn_J rfl nok _).trans (by kernel_rfl)
-- stuck: 0
end BClass
namespace BClass
/-- The class of a size: 0 nought, 1 subnormal, 2 normal, 3 infinite, 4 NaN. -/
def classV (s : Int × Int × Int × Int) (n : Int) : Int := if n = 0 then 0 else if n < BHidden.hidV s then 1 else if n < BInf.infV s then 2 else if n = BInf.infV s then 3 else 4
noncomputable def sp (s : Int × Int × Int × Int) (n : Int) : Prop × List D := (BShape.Two s, [.s (.sc (.int .i64 (classV s n)))])
theorem spec (s : Int × Int × Int × Int) (n : Int) (h : (sp s n).1) : evalFn E Tryz.f92 cod [(pG (.pair (sN .i64) (.pair (sN .i64) (.pair (sN .i64) (sN .u64))))).put s, (pN .u64).put n] = some (sp s n).2 := by
  obtain ⟨s1, s2, s3, s4⟩ := s
  have h : BShape.Two (s1, s2, s3, s4) := h
  refine (start s1 s2 s3 s4 n).trans ?_
  show _ = some [D.s (.sc (.int .i64 (classV (s1, s2, s3, s4) n)))]
  unfold classV
  by_cases h1 : n = 0
  · rw [bE_pos h1, if_pos h1]
  · rw [bE_neg h1, if_neg h1, gP h]
    by_cases h2 : n < BHidden.hidV (s1, s2, s3, s4)
    · rw [bD_pos h2, if_pos h2]
    · rw [bD_neg h2, if_neg h2, gP h]
      by_cases h3 : n < BInf.infV (s1, s2, s3, s4)
      · rw [bD_pos h3, if_pos h3]
      · rw [bD_neg h3, if_neg h3, gP h]
        by_cases h4 : n = BInf.infV (s1, s2, s3, s4)
        · rw [bE_pos h4, if_pos h4]
        · rw [bE_neg h4, if_neg h4]

noncomputable def orc : Orc := orc2 (pG (.pair (sN .i64) (.pair (sN .i64) (.pair (sN .i64) (sN .u64))))) (pN .u64) sp
theorem fnok : FnOk Tryz.prog E 92 Tryz.f92 cod := fnOk ty_ok mixed (callsOk_of _ rfl (orcs_cons BHidden.ok (orcs_cons BInf.ok orcs_nil)) (ext_ok)) Tryz.func92 rfl rfl rfl
theorem ok : OrcOk Tryz.prog base.glob 92 orc := fnok.ok2 rfl spec
end BClass
end Go.Proofs.YtfebndgmmekmgaaGreatDoor.W

/- gnomon/binary.ClassOf -/
namespace Go.Proofs.YtfebndgmmekmgaaGreatDoor.W
open Go Go.Proofs.YtfebndgmmekmgaaGreatDoor.AI Go.Proofs.YtfebndgmmekmgaaGreatDoor.M
namespace BClassOf
noncomputable def E : Env := { ({ base with C := callsOf [(91, BTake.orc), (92, BClass.orc)] }) with nt := 24, own := [13, 23], keep := fun k => (tlook [] k).getD [], cut := tlook [] }
noncomputable def cod : Code := (Go.Proofs.Tryz.f41.body).getD .skip
theorem nok : namesOk E cod = true := by kernel_rfl
theorem start (a : Int) (b : Int) : evalFn E Go.Proofs.Tryz.f41 cod [D.s (S.sc (Value.int IntKind.i64 a)), D.s (S.sc (Value.int IntKind.u64 b))] = gif ((a = (32 : Int) ∨ a = (64 : Int)) ∧ (0 : Int) ≤ b ∧ b < (18446744073709551616 : Int)) (bcase ((bif BTake.patB a b then (0 : Int) else (2 : Int)) != (0 : Int)) (some [D.s (S.sc (Value.int IntKind.i64 (0 : Int))), D.s (S.sc (Value.int IntKind.i64 (bif BTake.patB a b then (0 : Int) else (2 : Int))))]) (gif (BShape.Two ((BShape.shp a).fst, (BShape.shp a).snd.fst, (BShape.shp a).snd.snd.fst, (BShape.shp a).snd.snd.snd)) (some [D.s (S.sc (Value.int IntKind.i64 (BClass.classV ((BShape.shp a).fst, (BShape.shp a).snd.fst, (BShape.shp a).snd.snd.fst, (BShape.shp a).snd.snd.snd) (bif BTake.patB a b then b % BSign.signV (BShape.shp a) else (0 : Int))))), D.s (S.sc (Value.int IntKind.i64 (0 : Int)))]))) := (evalFn_J rfl nok _).trans (by kernel_rfl)
-- stuck: 0
end BClassOf
namespace BClassOf
noncomputable def sp (f b : Int) : Prop × List D := ((f = 32 ∨ f = 64) ∧ 0 ≤ b ∧ b < 18446744073709551616, [.s (.sc (.int .i64 (bif BTake.patB f b then BClass.classV (BShape.shp f) (b % BSign.signV (BShape.shp f)) else 0))), .s (.sc (.int .i64 (bif BTake.patB f b then 0 else 2)))])
theorem spec (f b : Int) (h : (sp f b).1) : evalFn E Tryz.f41 cod [(pN .i64).put f, (pN .u64).put b] = some (sp f b).2 := by
  refine (start f b).trans ((gP h).trans ?_)
  unfold sp
  dsimp only
  have ht : BShape.Two (BShape.shp f) := by
    rcases h.1 with rfl | rfl
    · exact .inl rfl
    · exact .inr rfl
  cases hp : BTake.patB f b with
  | false => rfl
  | true =>
    dsimp only [cond_true]
    rw [bN_neg rfl, gP ht]

noncomputable def orc : Orc := orc2 (pN .i64) (pN .u64) sp
theorem fnok : FnOk Tryz.prog E 41 Tryz.f41 cod := fnOk ty_ok mixed (callsOk_of _ rfl (orcs_cons BTake.ok (orcs_cons BClass.ok orcs_nil)) (ext_ok)) Tryz.func41 rfl rfl rfl
theorem ok : OrcOk Tryz.prog base.glob 41 orc := fnok.ok2 rfl spec
end BClassOf
end Go.Proofs.YtfebndgmmekmgaaGreatDoor.W

/- gnomon/turn.infinity -/
namespace Go.Proofs.YtfebndgmmekmgaaGreatDoor.W
open Go Go.Proofs.YtfebndgmmekmgaaGreatDoor.AI Go.Proofs.YtfebndgmmekmgaaGreatDoor.M
namespace UInfinity
noncomputable def E : Env := { (base) with nt := 5, own := [], keep := fun k => (tlook [] k).getD [], cut := tlook [] }
noncomputable def cod : Code := (Go.Proofs.Tryz.f94.body).getD .skip
theorem nok : namesOk E cod = true := by kernel_rfl
theorem start (a : Int) : evalFn E Go.Proofs.Tryz.f94 cod [D.s (S.sc (Value.int IntKind.i64 a))] = bcase (a == (32 : Int)) (some [D.s (S.sc (Value.int IntKind.u64 (2139095040 : Int)))]) (some [D.s (S.sc (Value.int IntKind.u64 (9218868437227405312 : Int)))]) := (evalFn_J rfl nok _).trans (by kernel_rfl)
-- stuck: 0
end UInfinity
namespace UInfinity
noncomputable def sp (f : Int) : Prop × List D := (f = 32 ∨ f = 64, [.s (.sc (.int .u64 (BInf.infV (BShape.shp f))))])
theorem spec (f : Int) (h : (sp f).1) : evalFn E Tryz.f94 cod [(pN .i64).put f] = some (sp f).2 := by
  refine (start f).trans ?_
  rcases h with rfl | rfl <;> rfl

noncomputable def orc : Orc := orc1 (pN .i64) sp
theorem fnok : FnOk Tryz.prog E 94 Tryz.f94 cod := fnOk ty_ok mixed (callsOk_of _ rfl orcs_nil (ext_ok)) Tryz.func94 rfl rfl rfl
theorem ok : OrcOk Tryz.prog base.glob 94 orc := fnok.ok1 rfl spec
end UInfinity
end Go.Proofs.YtfebndgmmekmgaaGreatDoor.W

/- (gnomon/binary.shape).made -/
namespace Go.Proofs.YtfebndgmmekmgaaGreatDoor.W
open Go Go.Proofs.YtfebndgmmekmgaaGreatDoor.AI Go.Proofs.YtfebndgmmekmgaaGreatDoor.M
namespace BMade
noncomputable def E : Env := { ({ base with C := callsOf [(144, BSign.orc)] }) with nt := 13, own := [], keep := fun k => (tlook [] k).getD [], cut := tlook [] }
noncomputable def cod : Code := (Go.Proofs.Tryz.f113.body).getD .skip
theorem nok : namesOk E cod = true := by kernel_rfl
theorem start (a1 : Int) (a2 : Int) (a3 : Int) (a4 : Int) (b : Bool) (c : Int) : evalFn E Go.Proofs.Tryz.f113 cod [D.agg [S.sc (Value.int IntKind.i64 a1), S.sc (Value.int IntKind.i64 a2), S.sc (Value.int IntKind.i64 a3), S.sc (Value.int IntKind.u64 a4)], D.s (S.sc (Value.bool b)), D.s (S.sc (Value.int IntKind.u64 c))] = bcase b (gif (BShape.Two (a1, a2, a3, a4)) (some [D.s (S.sc (Value.int IntKind.u64 (bitsI BinOp.or IntKind.u64 c (BSign.signV (a1, a2, a3, a4)))))])) (some [D.s (S.sc (Value.int IntKind.u64 c))]) := (evalFn_J rfl nok _).trans (by kernel_rfl)
-- stuck: 0
end BMade
namespace BMade
noncomputable def sp (s : Int × Int × Int × Int) (b : Bool) (c : Int) : Prop × List D := (BShape.Two s, [.s (.sc (.int .u64 (bif b then bitsI .or .u64 c (BSign.signV s) else c)))])
theorem spec (s : Int × Int × Int × Int) (b : Bool) (c : Int) (h : (sp s b c).1) : evalFn E Tryz.f113 cod [(pG (.pair (sN .i64) (.pair (sN .i64) (.pair (sN .i64) (sN .u64))))).put s, pB.put b, (pN .u64).put c] = some (sp s b c).2 := by
  refine (start s.1 s.2.1 s.2.2.1 s.2.2.2 b c).trans ?_
  cases b with
  | true => exact gP h
  | false => rfl

noncomputable def orc : Orc := orc3 (pG (.pair (sN .i64) (.pair (sN .i64) (.pair (sN .i64) (sN .u64))))) pB (pN .u64) sp
theorem fnok : FnOk Tryz.prog E 113 Tryz.f113 cod := fnOk ty_ok mixed (callsOk_of _ rfl (orcs_cons BSign.ok orcs_nil) (ext_ok)) Tryz.func113 rfl rfl rfl
theorem ok : OrcOk Tryz.prog base.glob 113 orc := fnok.ok3 rfl spec
end BMade
end Go.Proofs.YtfebndgmmekmgaaGreatDoor.W

/- gnomon/binary.Join -/
namespace Go.Proofs.YtfebndgmmekmgaaGreatDoor.W
open Go Go.Proofs.YtfebndgmmekmgaaGreatDoor.AI Go.Proofs.YtfebndgmmekmgaaGreatDoor.M
namespace BJoin
noncomputable def E : Env := { ({ base with C := callsOf [(67, BShape.orc), (113, BMade.orc), (145, Tz64.orc), (146, Len64.orc), (98, BHidden.orc), (97, BInf.orc)] }) with nt := 102, own := [25, 80, 101], keep := fun k => (tlook [] k).getD [], cut := tlook [(8, [1, 2, 3, 10]), (13, [1, 2, 3, 10, 12])] }
noncomputable def cod : Code := (Go.Proofs.Tryz.f95.body).getD .skip
theorem nok : namesOk E cod = true := by kernel_rfl
noncomputable def J8 (b0 : Bool) (x1 : Int) (x2 : Int) (x3 : Int) (x4 : Int) (x5 : Int) (x6 : Int) : Option (List D) := ctO E Go.Proofs.Tryz.f95 cod 8 [(A.v (V.one (L.s (S.sc (Value.bool b0)))), none), (A.v (V.one (L.s (S.sc (Value.int IntKind.u64 x1)))), none), (A.v (V.one (L.s (S.sc (Value.int IntKind.i64 x2)))), none), (A.v (V.one (L.ptr (3 : Nat) (0 : Nat))), some { e := (105 : Nat), cont := Cont.cells [S.sc (Value.int IntKind.i64 x3), S.sc (Value.int IntKind.i64 x4), S.sc (Value.int IntKind.i64 x5), S.sc (Value.int IntKind.u64 x6)] })]
noncomputable def J13 (b0 : Bool) (x1 : Int) (x2 : Int) (x3 : Int) (x4 : Int) (x5 : Int) (x6 : Int) (x7 : Int) : Option (List D) := ctO E Go.Proofs.Tryz.f95 cod 13 [(A.v (V.one (L.s (S.sc (Value.bool b0)))), none), (A.v (V.one (L.s (S.sc (Value.int IntKind.u64 x1)))), none), (A.v (V.one (L.s (S.sc (Value.int IntKind.i64 x2)))), none), (A.v (V.one (L.ptr (3 : Nat) (0 : Nat))), some { e := (105 : Nat), cont := Cont.cells [S.sc (Value.int IntKind.i64 x3), S.sc (Value.int IntKind.i64 x4), S.sc (Value.int IntKind.i64 x5), S.sc (Value.int IntKind.u64 x6)] }), (A.v (V.one (L.s (S.sc (Value.int IntKind.i64 x7)))), none)]
theorem start (a : Int) (b : Bool) (c : Int) (d : Int) : evalFn E Go.Proofs.Tryz.f95 cod [D.s (S.sc (Value.int IntKind.i64 a)), D.s (S.sc (Value.bool b)), D.s (S.sc (Value.int IntKind.u64 c)), D.s (S.sc (Value.int IntKind.i64 d))] = gif True (bcase ((BShape.shp a).fst == (0 : Int) && ((BShape.shp a).snd.fst == (0 : Int) && ((BShape.shp a).snd.snd.fst == (0 : Int) && ((BShape.shp a).snd.snd.snd == (0 : Int) && true)))) (some [D.s (S.sc (Value.int IntKind.u64 (0 : Int))), D.s (S.sc (Value.int IntKind.i64 (1 : Int)))]) (bcase (c == (0 : Int)) (gif (BShape.Two ((BShape.shp a).fst, (BShape.shp a).snd.fst, (BShape.shp a).snd.snd.fst, (BShape.shp a).snd.snd.snd)) (some [D.s (S.sc (Value.int IntKind.u64 (bif b then bitsI BinOp.or IntKind.u64 (0 : Int) (BSign.signV ((BShape.shp a).fst, (BShape.shp a).snd.fst, (BShape.shp a).snd.snd.fst, (BShape.shp a).snd.snd.snd)) else (0 : Int)))), D.s (S.sc (Value.int IntKind.i64 (0 : Int)))])) (bcase (decide (d < IntKind.i64.wrap ((BShape.shp a).snd.snd.fst - (64 : Int)))) (some [D.s (S.sc (Value.int IntKind.u64 (0 : Int))), D.s (S.sc (Value.int IntKind.i64 (5 : Int)))]) (bcase (decide (IntKind.i64.wrap ((BShape.shp a).snd.snd.fst + (4096 : Int)) < d)) (some [D.s (S.sc (Value.int IntKind.u64 (0 : Int))), D.s (S.sc (Value.int IntKind.i64 (5 : Int)))]) (BJoin.J8 b c d (BShape.shp a).fst (BShape.shp a).snd.fst (BShape.shp a).snd.snd.fst (BShape.shp a).snd.snd.snd))))) := (evalFn_J rfl nok _).trans (by kernel_rfl)
theorem J8_eq (b0 : Bool) (x1 : Int) (x2 : Int) (x3 : Int) (x4 : Int) (x5 : Int) (x6 : Int) : J8 b0 x1 x2 x3 x4 x5 x6 = gif ((0 : Int) ≤ x1 ∧ x1 < (18446744073709551616 : Int)) (if (if x1 = (0 : Int) then (64 : Int) else (↑(tz x1.toNat) : Int)) < (0 : Int) then none else gif ((0 : Int) ≤ x1 / (↑((2 : Nat) ^ min (if x1 = (0 : Int) then (64 : Int) else (↑(tz x1.toNat) : Int)).toNat (64 : Nat)) : Int) ∧ x1 / (↑((2 : Nat) ^ min (if x1 = (0 : Int) then (64 : Int) else (↑(tz x1.toNat) : Int)).toNat (64 : Nat)) : Int) < (18446744073709551616 : Int)) (bcase (decide (x4 < (↑(bl (x1 / (↑((2 : Nat) ^ min (if x1 = (0 : Int) then (64 : Int) else (↑(tz x1.toNat) : Int)).toNat (64 : Nat)) : Int)).toNat) : Int))) (some [D.s (S.sc (Value.int IntKind.u64 (0 : Int))), D.s (S.sc (Value.int IntKind.i64 (5 : Int)))]) (bcase (decide (IntKind.i64.wrap (x2 + if x1 = (0 : Int) then (64 : Int) else (↑(tz x1.toNat) : Int)) < x5)) (some [D.s (S.sc (Value.int IntKind.u64 (0 : Int))), D.s (S.sc (Value.int IntKind.i64 (5 : Int)))]) (BJoin.J13 b0 (x1 / (↑((2 : Nat) ^ min (if x1 = (0 : Int) then (64 : Int) else (↑(tz x1.toNat) : Int)).toNat (64 : Nat)) : Int)) (IntKind.i64.wrap (x2 + if x1 = (0 : Int) then (64 : Int) else (↑(tz x1.toNat) : Int))) x3 x4 x5 x6 (↑(bl (x1 / (↑((2 : Nat) ^ min (if x1 = (0 : Int) then (64 : Int) else (↑(tz x1.toNat) : Int)).toNat (64 : Nat)) : Int)).toNat) : Int))))) := (cutAt_J rfl nok 8 _).trans (by kernel_rfl)
theorem J13_eq (b0 : Bool) (x1 : Int) (x2 : Int) (x3 : Int) (x4 : Int) (x5 : Int) (x6 : Int) (x7 : Int) : J13 b0 x1 x2 x3 x4 x5 x6 x7 = if (if IntKind.i64.wrap (x2 - x5) < IntKind.i64.wrap (x4 - x7) then IntKind.i64.wrap (x2 - x5) else IntKind.i64.wrap (x4 - x7)) < (0 : Int) then none else gif (BShape.Two (x3, x4, x5, x6)) (bcase (decide (IntKind.u64.wrap (x1 * (↑((2 : Nat) ^ min (if IntKind.i64.wrap (x2 - x5) < IntKind.i64.wrap (x4 - x7) then IntKind.i64.wrap (x2 - x5) else IntKind.i64.wrap (x4 - x7)).toNat (64 : Nat)) : Int)) < BHidden.hidV (x3, x4, x5, x6))) (gif (BShape.Two (x3, x4, x5, x6)) (some [D.s (S.sc (Value.int IntKind.u64 (bif b0 then bitsI BinOp.or IntKind.u64 (IntKind.u64.wrap (x1 * (↑((2 : Nat) ^ min (if IntKind.i64.wrap (x2 - x5) < IntKind.i64.wrap (x4 - x7) then IntKind.i64.wrap (x2 - x5) else IntKind.i64.wrap (x4 - x7)).toNat (64 : Nat)) : Int))) (BSign.signV (x3, x4, x5, x6)) else IntKind.u64.wrap (x1 * (↑((2 : Nat) ^ min (if IntKind.i64.wrap (x2 - x5) < IntKind.i64.wrap (x4 - x7) then IntKind.i64.wrap (x2 - x5) else IntKind.i64.wrap (x4 - x7)).toNat (64 : Nat)) : Int))))), D.s (S.sc (Value.int IntKind.i64 (0 : Int)))])) (gif (BShape.Two (x3, x4, x5, x6)) (gif (BShape.Two (x3, x4, x5, x6)) (bcase (decide (BInf.infV (x3, x4, x5, x6) ≤ IntKind.u64.wrap (IntKind.u64.wrap (IntKind.u64.wrap (IntKind.u64.wrap (IntKind.i64.wrap (IntKind.i64.wrap (IntKind.i64.wrap (x2 - if IntKind.i64.wrap (x2 - x5) < IntKind.i64.wrap (x4 - x7) then IntKind.i64.wrap (x2 - x5) else IntKind.i64.wrap (x4 - x7)) - x5) + (1 : Int))) - (1 : Int)) * BHidden.hidV (x3, x4, x5, x6)) + IntKind.u64.wrap (x1 * (↑((2 : Nat) ^ min (if IntKind.i64.wrap (x2 - x5) < IntKind.i64.wrap (x4 - x7) then IntKind.i64.wrap (x2 - x5) else IntKind.i64.wrap (x4 - x7)).toNat (64 : Nat)) : Int))))) (some [D.s (S.sc (Value.int IntKind.u64 (0 : Int))), D.s (S.sc (Value.int IntKind.i64 (5 : Int)))]) (gif (BShape.Two (x3, x4, x5, x6)) (some [D.s (S.sc (Value.int IntKind.u64 (bif b0 then bitsI BinOp.or IntKind.u64 (IntKind.u64.wrap (IntKind.u64.wrap (IntKind.u64.wrap (IntKind.u64.wrap (IntKind.i64.wrap (IntKind.i64.wrap (IntKind.i64.wrap (x2 - if IntKind.i64.wrap (x2 - x5) < IntKind.i64.wrap (x4 - x7) then IntKind.i64.wrap (x2 - x5) else IntKind.i64.wrap (x4 - x7)) - x5) + (1 : Int))) - (1 : Int)) * BHidden.hidV (x3, x4, x5, x6)) + IntKind.u64.wrap (x1 * (↑((2 : Nat) ^ min (if IntKind.i64.wrap (x2 - x5) < IntKind.i64.wrap (x4 - x7) then IntKind.i64.wrap (x2 - x5) else IntKind.i64.wrap (x4 - x7)).toNat (64 : Nat)) : Int)))) (BSign.signV (x3, x4, x5, x6)) else IntKind.u64.wrap (IntKind.u64.wrap (IntKind.u64.wrap (IntKind.u64.wrap (IntKind.i64.wrap (IntKind.i64.wrap (IntKind.i64.wrap (x2 - if IntKind.i64.wrap (x2 - x5) < IntKind.i64.wrap (x4 - x7) then IntKind.i64.wrap (x2 - x5) else IntKind.i64.wrap (x4 - x7)) - x5) + (1 : Int))) - (1 : Int)) * BHidden.hidV (x3, x4, x5, x6)) + IntKind.u64.wrap (x1 * (↑((2 : Nat) ^ min (if IntKind.i64.wrap (x2 - x5) < IntKind.i64.wrap (x4 - x7) then IntKind.i64.wrap (x2 - x5) else IntKind.i64.wrap (x4 - x7)).toNat (64 : Nat)) : Int)))))), D.s (S.sc (Value.int IntKind.i64 (0 : Int)))])))))) := (cutAt_J rfl nok 13 _).trans (by kernel_rfl)
-- stuck: 0
end BJoin
namespace BJoin
/-- A size with its sign. -/
def sgnd (s : Int × Int × Int × Int) (b : Bool) (c : Int) : Int := bif b then c + BSign.signV s else c
/-- How far an odd number is moved up. -/
def upJ (s : Int × Int × Int × Int) (m : Nat) (e : Int) : Nat := (if e - s.2.2.1 < s.2.1 - ((bl m : Nat) : Int) then e - s.2.2.1 else s.2.1 - ((bl m : Nat) : Int)).toNat
def sizeJ (s : Int × Int × Int × Int) (m : Nat) (e : Int) : Option Int :=
  if ((m * 2 ^ upJ s m e : Nat) : Int) < BHidden.hidV s then some ((m * 2 ^ upJ s m e : Nat) : Int)
  else if BInf.infV s ≤ (e - (upJ s m e : Nat) - s.2.2.1) * BHidden.hidV s + ((m * 2 ^ upJ s m e : Nat) : Int) then none
  else some ((e - (upJ s m e : Nat) - s.2.2.1) * BHidden.hidV s + ((m * 2 ^ upJ s m e : Nat) : Int))
/-- The size of the pattern of just m * 2^e, where there is one. -/
def joinS (s : Int × Int × Int × Int) (m : Nat) (e : Int) : Option Int :=
  if e < s.2.2.1 - 64 ∨ s.2.2.1 + 4096 < e then none
  else if s.2.1 < ((bl (m / 2 ^ tz m) : Nat) : Int) ∨ e + ((tz m : Nat) : Int) < s.2.2.1 then none
  else sizeJ s (m / 2 ^ tz m) (e + ((tz m : Nat) : Int))
def valJ (s : Int × Int × Int × Int) (b : Bool) (o : Option Int) : Int := match o with
  | some c => sgnd s b c
  | none => 0
def errJ (o : Option Int) : Int := match o with
  | some _ => 0
  | none => 5
/-- A number joined, and its error. -/
def joinO (s : Int × Int × Int × Int) (m e : Int) : Option Int := if m = 0 then some 0 else joinS s m.toNat e
def resJ (s : Int × Int × Int × Int) (b : Bool) (o : Option Int) : List D := [.s (.sc (.int .u64 (valJ s b o))), .s (.sc (.int .i64 (errJ o)))]
theorem or_sign {s : Int × Int × Int × Int} (hs : BShape.Two s) {b : Bool} {c : Int} (h0 : 0 ≤ c) (h1 : c < BSign.signV s) : (bif b then bitsI .or .u64 c (BSign.signV s) else c) = sgnd s b c := by
  unfold sgnd
  cases b with
  | false => rfl
  | true =>
    dsimp only [cond_true]
    obtain ⟨n, rfl⟩ := Int.eq_ofNat_of_zero_le h0
    rcases hs with rfl | rfl
    · rw [show BSign.signV (32, 24, -149, 2143289345) = 2147483648 from rfl] at *
      rw [or64 (by omega) (by omega) (by omega) (by omega)]
      have := or_low (c := n) (n := 1) (k := 31) (by omega)
      rw [show (2147483648 : Int).toNat = 2 ^ 31 * 1 from rfl, Int.toNat_natCast, this]
      omega
    · rw [show BSign.signV (64, 53, -1074, 9221120237041090561) = 9223372036854775808 from rfl] at *
      rw [or64 (by omega) (by omega) (by omega) (by omega)]
      have := or_low (c := n) (n := 1) (k := 63) (by omega)
      rw [show (9223372036854775808 : Int).toNat = 2 ^ 63 * 1 from rfl, Int.toNat_natCast, this]
      omega
theorem j13 {s : Int × Int × Int × Int} (hs : BShape.Two s) (b : Bool) (m : Nat) (e : Int) (h1 : ((bl m : Nat) : Int) ≤ s.2.1) (h2 : s.2.2.1 ≤ e) (h3 : e ≤ 3000) (hm : m ≠ 0) :
    J13 b (m : Int) e s.1 s.2.1 s.2.2.1 s.2.2.2 ((bl m : Nat) : Int) = some (resJ s b (sizeJ s m e)) := by
  have hb := bl_pos hm
  have hlt : m * 2 ^ upJ s m e < 2 ^ (bl m + upJ s m e) := by
    rw [Nat.pow_add]
    exact Nat.mul_lt_mul_of_lt_of_le (lt_bl m) (Nat.le_refl _) (Nat.pow_pos (by decide))
  have hup : ((bl m + upJ s m e : Nat) : Int) ≤ s.2.1 := by
    unfold upJ
    split <;> omega
  have hu0 : ((upJ s m e : Nat) : Int) ≤ e - s.2.2.1 := by
    unfold upJ
    split <;> omega
  rw [J13_eq]
  have hul : ∀ k : Nat, s.2.1 ≤ (k : Int) → m * 2 ^ upJ s m e < 2 ^ k := fun k hk => Nat.lt_of_lt_of_le hlt (Nat.pow_le_pow_right (by decide) (by omega))
  have low : -1074 ≤ s.2.2.1 ∧ s.2.2.1 ≤ 0 ∧ s.2.1 ≤ 53 := by rcases hs with rfl | rfl <;> (dsimp only; omega)
  rw [wrap_i64 (n := e - s.2.2.1) (by omega) (by omega), wrap_i64 (n := s.2.1 - ((bl m : Nat) : Int)) (by omega) (by omega)]
  have hue : (if e - s.2.2.1 < s.2.1 - ((bl m : Nat) : Int) then e - s.2.2.1 else s.2.1 - ((bl m : Nat) : Int)) = ((upJ s m e : Nat) : Int) := by
    unfold upJ
    split <;> omega
  rw [hue, if_neg (by omega), Int.toNat_natCast, show min (upJ s m e) 64 = upJ s m e by omega, ← Int.natCast_mul, gP hs]
  unfold sizeJ
  generalize upJ s m e = u at *
  generalize m * 2 ^ u = M at *
  rcases hs with rfl | rfl
  · have hM := hul 24 (by decide)
    simp only [show BHidden.hidV (32, 24, -149, 2143289345) = 8388608 from rfl, show BInf.infV (32, 24, -149, 2143289345) = 2139095040 from rfl] at *
    rw [wrap_u64 (n := (M : Int)) (by omega) (by omega), wrap_i64 (n := e - (u : Int)) (by omega) (by omega), wrap_i64 (n := e - (u : Int) - -149) (by omega) (by omega), wrap_i64 (n := e - (u : Int) - -149 + 1) (by omega) (by omega), wrap_u64 (n := e - (u : Int) - -149 + 1) (by omega) (by omega), wrap_u64 (n := e - (u : Int) - -149 + 1 - 1) (by omega) (by omega), show e - (u : Int) - -149 + 1 - 1 = e - (u : Int) - -149 by omega, wrap_u64 (n := (e - (u : Int) - -149) * 8388608) (by omega) (by omega), wrap_u64 (n := (e - (u : Int) - -149) * 8388608 + (M : Int)) (by omega) (by omega)]
    by_cases c1 : (M : Int) < 8388608
    · rw [bD_pos c1, if_pos c1, gP BShape.two32, or_sign BShape.two32 (by omega) (by show (M : Int) < 2147483648; omega)]
      rfl
    · rw [bD_neg c1, if_neg c1, gP BShape.two32, gP BShape.two32]
      by_cases c2 : 2139095040 ≤ (e - (u : Int) - -149) * 8388608 + (M : Int)
      · rw [bD_pos c2, if_pos c2]
        rfl
      · rw [bD_neg c2, if_neg c2, gP BShape.two32, or_sign BShape.two32 (by omega) (by show _ < 2147483648; omega)]
        rfl
  · have hM := hul 53 (by decide)
    simp only [show BHidden.hidV (64, 53, -1074, 9221120237041090561) = 4503599627370496 from rfl, show BInf.infV (64, 53, -1074, 9221120237041090561) = 9218868437227405312 from rfl] at *
    by_cases c1 : (M : Int) < 4503599627370496
    · rw [wrap_u64 (n := (M : Int)) (by omega) (by omega), bD_pos c1, if_pos c1, gP BShape.two64, or_sign BShape.two64 (by omega) (by show (M : Int) < 9223372036854775808; omega)]
      rfl
    · rw [wrap_u64 (n := (M : Int)) (by omega) (by omega), wrap_i64 (n := e - (u : Int)) (by omega) (by omega), wrap_i64 (n := e - (u : Int) - -1074) (by omega) (by omega), wrap_i64 (n := e - (u : Int) - -1074 + 1) (by omega) (by omega), wrap_u64 (n := e - (u : Int) - -1074 + 1) (by omega) (by omega), wrap_u64 (n := e - (u : Int) - -1074 + 1 - 1) (by omega) (by omega), show e - (u : Int) - -1074 + 1 - 1 = e - (u : Int) - -1074 by omega]
      rw [wrap_u64 (n := (e - (u : Int) - -1074) * 4503599627370496) (by omega) (by omega), wrap_u64 (n := (e - (u : Int) - -1074) * 4503599627370496 + (M : Int)) (by omega) (by omega), bD_neg c1, if_neg c1, gP BShape.two64, gP BShape.two64]
      by_cases c2 : 9218868437227405312 ≤ (e - (u : Int) - -1074) * 4503599627370496 + (M : Int)
      · rw [bD_pos c2, if_pos c2]
        rfl
      · rw [bD_neg c2, if_neg c2, gP BShape.two64, or_sign BShape.two64 (by omega) (by show _ < 9223372036854775808; omega)]
        rfl
noncomputable def sp (f : Int) (b : Bool) (m e : Int) : Prop × List D := ((f = 32 ∨ f = 64) ∧ (0 ≤ m ∧ m < 18446744073709551616) ∧ -4000 ≤ e ∧ e ≤ 2900, [.s (.sc (.int .u64 (valJ (BShape.shp f) b (joinO (BShape.shp f) m e)))), .s (.sc (.int .i64 (errJ (joinO (BShape.shp f) m e))))])
theorem spec (f : Int) (b : Bool) (m e : Int) (h : (sp f b m e).1) : evalFn E Tryz.f95 cod [(pN .i64).put f, pB.put b, (pN .u64).put m, (pN .i64).put e] = some (sp f b m e).2 := by
  obtain ⟨hf, ⟨hm0, hm1⟩, he0, he1⟩ := h
  refine (start f b m e).trans ((gP trivial).trans ?_)
  show _ = some (resJ (BShape.shp f) b (joinO (BShape.shp f) m e))
  unfold joinO
  have hs : BShape.Two (BShape.shp f) := by
    rcases hf with rfl | rfl
    · exact .inl rfl
    · exact .inr rfl
  generalize BShape.shp f = s at *
  obtain ⟨n, rfl⟩ := Int.eq_ofNat_of_zero_le hm0
  have low : -1074 ≤ s.2.2.1 ∧ s.2.2.1 ≤ 0 ∧ s.2.1 ≤ 53 := by rcases hs with rfl | rfl <;> (dsimp only; omega)
  have hne : (s.1 == 0 && (s.2.1 == 0 && (s.2.2.1 == 0 && (s.2.2.2 == 0 && true)))) = false := by rcases hs with rfl | rfl <;> rfl
  have hz0 : 0 < BSign.signV s := by unfold BSign.signV; split <;> omega
  rw [bB_neg hne]
  by_cases h0 : (n : Int) = 0
  · rw [bE_pos h0, if_pos h0]
    refine (gP hs).trans ?_
    rw [or_sign hs (by omega) hz0]
    rfl
  · have hn0 : n ≠ 0 := by omega
    have ht := tz_lt hn0
    have ht2 : tz n < 64 := (Nat.pow_lt_pow_iff_right (by decide : 1 < 2)).1 (Nat.lt_of_le_of_lt ht (by omega))
    rw [bE_neg h0, if_neg h0, wrap_i64 (n := s.2.2.1 - 64) (by omega) (by omega), wrap_i64 (n := s.2.2.1 + 4096) (by omega) (by omega)]
    unfold joinS
    by_cases c1 : e < s.2.2.1 - 64
    · rw [bD_pos c1, if_pos (.inl c1)]
      rfl
    · rw [bD_neg c1]
      by_cases c2 : s.2.2.1 + 4096 < e
      · rw [bD_pos c2, if_pos (.inr c2)]
        rfl
      · rw [bD_neg c2, if_neg (by omega), J8_eq, if_neg h0, Int.toNat_natCast, if_neg (by omega), gP (by omega), Int.toNat_natCast, show min (tz n) 64 = tz n by omega, ← Int.natCast_ediv, Int.toNat_natCast, wrap_i64 (n := e + ((tz n : Nat) : Int)) (by omega) (by omega)]
        have hd : n / 2 ^ tz n ≠ 0 := fun h => by have := (tz_spec n hn0).2; rw [h] at this; cases this
        have hl : n / 2 ^ tz n ≤ n := Nat.div_le_self _ _
        generalize n / 2 ^ tz n = q at *
        rw [gP (by omega)]
        by_cases c3 : s.2.1 < ((bl q : Nat) : Int)
        · rw [bD_pos c3, if_pos (.inl c3)]
          rfl
        · rw [bD_neg c3]
          by_cases c4 : e + ((tz n : Nat) : Int) < s.2.2.1
          · rw [bD_pos c4, if_pos (.inr c4)]
            rfl
          · rw [bD_neg c4, if_neg (by omega), j13 hs b _ _ (by omega) (by omega) (by omega) hd]

noncomputable def orc : Orc := orc4 (pN .i64) pB (pN .u64) (pN .i64) sp
theorem fnok : FnOk Tryz.prog E 95 Tryz.f95 cod := fnOk ty_ok mixed (callsOk_of _ rfl (orcs_cons BShape.ok (orcs_cons BMade.ok (orcs_cons Tz64.ok (orcs_cons Len64.ok (orcs_cons BHidden.ok (orcs_cons BInf.ok orcs_nil)))))) (ext_ok)) Tryz.func95 rfl rfl rfl
theorem ok : OrcOk Tryz.prog base.glob 95 orc := fnok.ok4 rfl spec
end BJoin
end Go.Proofs.YtfebndgmmekmgaaGreatDoor.W

