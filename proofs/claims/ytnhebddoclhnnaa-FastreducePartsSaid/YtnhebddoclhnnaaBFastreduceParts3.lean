/- Texts of the claim on FastreduceParts, in their order: FHold7, FRound10, FRound19, FPart22, FLawParts. -/
import Derived.Test.YtnhebddoclhnnaaBFastreduceParts2
/- gnomon/gnomonref07.Hold -/
namespace Go.Proofs.Ytnhebddoclhnnaa.W
open Go Go.Proofs.Ytnhebddoclhnnaa.AI Go.Proofs.Ytnhebddoclhnnaa.M
namespace Hold7
noncomputable def E : Env := { ({ base with C := callsOf [(35, ZSign.orc), (36, ZOf.orc), (13, Bits.orc), (37, ZCmp.orc), (38, ZShl.orc)] }) with nt := 70, own := [28, 30, 62, 69], keep := fun k => (tlook [] k).getD [], cut := tlook [(3, [1, 3, 4, 6])] }
noncomputable def cod : Code := (Go.Proofs.Try.f29.body).getD .skip
theorem nok : namesOk E cod = true := by kernel_rfl
noncomputable def J3 (x0 : Int) (x1 : Int) (b2 : Bool) (xs3 : List Int) (b4 : Bool) (xs5 : List Int) : Option (List D) := ctO E Go.Proofs.Try.f29 cod 3 [(A.v (V.one (L.s (S.sc (Value.int IntKind.i64 x0)))), none), (A.v (V.one (L.s (S.sc (Value.int IntKind.i64 x1)))), none), (A.v (V.one (L.ptr (2 : Nat) (0 : Nat))), some { e := (36 : Nat), cont := Cont.cells [S.sc (Value.bool b2), S.ints IntKind.u32 xs3] }), (A.v (V.one (L.ptr (3 : Nat) (0 : Nat))), some { e := (36 : Nat), cont := Cont.cells [S.sc (Value.bool b4), S.ints IntKind.u32 xs5] })]
theorem start (a1 : Bool) (a2 : List Int) (b : Int) (c1 : Bool) (c2 : List Int) (d : Int) : evalFn E Go.Proofs.Try.f29 cod [D.agg [S.sc (Value.bool a1), S.ints IntKind.u32 a2], D.s (S.sc (Value.int IntKind.i64 b)), D.agg [S.sc (Value.bool c1), S.ints IntKind.u32 c2], D.s (S.sc (Value.int IntKind.i64 d))] = gif (Zok (a1, a2)) (gif (Zok (c1, c2)) (bcase (cmpZ (zv (a1, a2)) (0 : Int) != cmpZ (zv (c1, c2)) (0 : Int)) (gif (Zok (a1, a2)) (gif (Zok (c1, c2)) (gif ((-9223372036854775808 : Int) ≤ IntKind.i64.wrap (cmpZ (zv (a1, a2)) (0 : Int) - cmpZ (zv (c1, c2)) (0 : Int)) ∧ IntKind.i64.wrap (cmpZ (zv (a1, a2)) (0 : Int) - cmpZ (zv (c1, c2)) (0 : Int)) < (9223372036854775808 : Int)) (gif (Zok (isNeg (IntKind.i64.wrap (cmpZ (zv (a1, a2)) (0 : Int) - cmpZ (zv (c1, c2)) (0 : Int))), dg (IntKind.i64.wrap (cmpZ (zv (a1, a2)) (0 : Int) - cmpZ (zv (c1, c2)) (0 : Int))).natAbs)) (some [D.s (S.sc (Value.int IntKind.i64 (cmpZ (zv (isNeg (IntKind.i64.wrap (cmpZ (zv (a1, a2)) (0 : Int) - cmpZ (zv (c1, c2)) (0 : Int))), dg (IntKind.i64.wrap (cmpZ (zv (a1, a2)) (0 : Int) - cmpZ (zv (c1, c2)) (0 : Int))).natAbs)) (0 : Int))))]))))) (gif (Zok (a1, a2)) (bcase (cmpZ (zv (a1, a2)) (0 : Int) == (0 : Int)) (gif (Zok (a1, a2)) (gif (Zok (c1, c2)) (gif ((-9223372036854775808 : Int) ≤ IntKind.i64.wrap (cmpZ (zv (a1, a2)) (0 : Int) - cmpZ (zv (c1, c2)) (0 : Int)) ∧ IntKind.i64.wrap (cmpZ (zv (a1, a2)) (0 : Int) - cmpZ (zv (c1, c2)) (0 : Int)) < (9223372036854775808 : Int)) (gif (Zok (isNeg (IntKind.i64.wrap (cmpZ (zv (a1, a2)) (0 : Int) - cmpZ (zv (c1, c2)) (0 : Int))), dg (IntKind.i64.wrap (cmpZ (zv (a1, a2)) (0 : Int) - cmpZ (zv (c1, c2)) (0 : Int))).natAbs)) (some [D.s (S.sc (Value.int IntKind.i64 (cmpZ (zv (isNeg (IntKind.i64.wrap (cmpZ (zv (a1, a2)) (0 : Int) - cmpZ (zv (c1, c2)) (0 : Int))), dg (IntKind.i64.wrap (cmpZ (zv (a1, a2)) (0 : Int) - cmpZ (zv (c1, c2)) (0 : Int))).natAbs)) (0 : Int))))]))))) (Hold7.J3 b d a1 a2 c1 c2))))) := (evalFn_J rfl nok _).trans (by kernel_rfl)
theorem J3_eq (x0 : Int) (x1 : Int) (b2 : Bool) (xs3 : List Int) (b4 : Bool) (xs5 : List Int) : J3 x0 x1 b2 xs3 b4 xs5 = gif (Zok (b2, xs3)) (gif (Nrm xs3 ∧ xs3.length ≤ (4398046511104 : Nat)) (gif (Nrm xs5 ∧ xs5.length ≤ (4398046511104 : Nat)) (bcase (decide (IntKind.i64.wrap ((↑(bl (val xs3)) : Int) + x0) < IntKind.i64.wrap ((↑(bl (val xs5)) : Int) + x1))) (some [D.s (S.sc (Value.int IntKind.i64 (IntKind.i64.wrap ((0 : Int) - cmpZ (zv (b2, xs3)) (0 : Int)))))]) (bcase (decide (IntKind.i64.wrap ((↑(bl (val xs5)) : Int) + x1) < IntKind.i64.wrap ((↑(bl (val xs3)) : Int) + x0))) (some [D.s (S.sc (Value.int IntKind.i64 (cmpZ (zv (b2, xs3)) (0 : Int))))]) (bcase (decide (x1 < x0)) (gif (Zok (b2, xs3) ∧ IntKind.i64.wrap (x0 - x1) ≤ (1099511627776 : Int)) (gif (Zok (isNeg (zv (b2, xs3) * (2 : Int) ^ (IntKind.i64.wrap (x0 - x1)).toNat), dg (zv (b2, xs3) * (2 : Int) ^ (IntKind.i64.wrap (x0 - x1)).toNat).natAbs) ∧ Zok (b4, xs5) ∧ (isNeg (zv (b2, xs3) * (2 : Int) ^ (IntKind.i64.wrap (x0 - x1)).toNat), dg (zv (b2, xs3) * (2 : Int) ^ (IntKind.i64.wrap (x0 - x1)).toNat).natAbs).snd.length < (549755813888 : Nat) ∧ (b4, xs5).snd.length < (549755813888 : Nat)) (some [D.s (S.sc (Value.int IntKind.i64 (cmpZ (zv (isNeg (zv (b2, xs3) * (2 : Int) ^ (IntKind.i64.wrap (x0 - x1)).toNat), dg (zv (b2, xs3) * (2 : Int) ^ (IntKind.i64.wrap (x0 - x1)).toNat).natAbs)) (zv (b4, xs5)))))]))) (gif (Zok (b4, xs5) ∧ IntKind.i64.wrap (x1 - x0) ≤ (1099511627776 : Int)) (gif (Zok (b2, xs3) ∧ Zok (isNeg (zv (b4, xs5) * (2 : Int) ^ (IntKind.i64.wrap (x1 - x0)).toNat), dg (zv (b4, xs5) * (2 : Int) ^ (IntKind.i64.wrap (x1 - x0)).toNat).natAbs) ∧ (b2, xs3).snd.length < (549755813888 : Nat) ∧ (isNeg (zv (b4, xs5) * (2 : Int) ^ (IntKind.i64.wrap (x1 - x0)).toNat), dg (zv (b4, xs5) * (2 : Int) ^ (IntKind.i64.wrap (x1 - x0)).toNat).natAbs).snd.length < (549755813888 : Nat)) (some [D.s (S.sc (Value.int IntKind.i64 (cmpZ (zv (b2, xs3)) (zv (isNeg (zv (b4, xs5) * (2 : Int) ^ (IntKind.i64.wrap (x1 - x0)).toNat), dg (zv (b4, xs5) * (2 : Int) ^ (IntKind.i64.wrap (x1 - x0)).toNat).natAbs)))))])))))))) := (cutAt_J rfl nok 3 _).trans (by kernel_rfl)
-- stuck: 0
end Hold7
namespace Hold7
noncomputable def sp (m : Bool × List Int) (e : Int) (l : Bool × List Int) (f : Int) : Prop × List D := (Zok m ∧ Zok l ∧ m.2.length ≤ 1048576 ∧ l.2.length ≤ 1048576 ∧ (-16777216 ≤ e ∧ e ≤ 16777216) ∧ (-16777216 ≤ f ∧ f ≤ 16777216), [.s (.sc (.int .i64 (holdZ (zv m) e (zv l) f)))])
/-- Of two that aren't nought, of one sign: by their sizes. -/
theorem holdZ_lt {m l : Int} {e f : Int} (h : (bl m.natAbs : Int) + e < bl l.natAbs + f) (hl : l ≠ 0) (hs : cmpZ m 0 = cmpZ l 0) : holdZ m e l f = 0 - cmpZ m 0 := by
  have hlt : m.natAbs * 2 ^ (e - f).toNat < l.natAbs * 2 ^ (f - e).toNat := by
    have h1 := lt_bl m.natAbs
    have h2 := bl_ge (n := l.natAbs) (by omega)
    have h3 := bl_pos (n := l.natAbs) (by omega)
    have a1 : m.natAbs * 2 ^ (e - f).toNat < 2 ^ (bl m.natAbs + (e - f).toNat) := by
      rw [Nat.pow_add]; exact Nat.mul_lt_mul_of_pos_right h1 (Nat.pow_pos (by omega))
    have a2 : 2 ^ (bl l.natAbs - 1 + (f - e).toNat) ≤ l.natAbs * 2 ^ (f - e).toNat := by
      rw [Nat.pow_add]; exact Nat.mul_le_mul_right _ h2
    have a3 : 2 ^ (bl m.natAbs + (e - f).toNat) ≤ 2 ^ (bl l.natAbs - 1 + (f - e).toNat) := Nat.pow_le_pow_right (by omega) (by omega)
    omega
  unfold holdZ
  have p1 : (0 : Int) < 2 ^ (e - f).toNat := Int.pow_pos (by omega)
  have p2 : (0 : Int) < 2 ^ (f - e).toNat := Int.pow_pos (by omega)
  have q1 : (m * 2 ^ (e - f).toNat).natAbs = m.natAbs * 2 ^ (e - f).toNat := by rw [Int.natAbs_mul, Int.natAbs_pow]; rfl
  have q2 : (l * 2 ^ (f - e).toNat).natAbs = l.natAbs * 2 ^ (f - e).toNat := by rw [Int.natAbs_mul, Int.natAbs_pow]; rfl
  rw [← q1, ← q2] at hlt
  rcases Int.lt_trichotomy l 0 with h0 | h0 | h0
  · have hm : m < 0 := by
      unfold cmpZ at hs
      rw [if_pos h0] at hs
      split at hs
      · assumption
      · split at hs <;> omega
    have b1 := Int.mul_neg_of_neg_of_pos hm p1
    have b2 := Int.mul_neg_of_neg_of_pos h0 p2
    unfold cmpZ
    rw [if_neg (by omega), if_pos (by omega), if_pos hm]
    rfl
  · exact (hl h0).elim
  · have hm : 0 < m := by
      unfold cmpZ at hs
      rw [if_neg (show ¬ l < 0 by omega), if_pos h0] at hs
      split at hs
      · omega
      · split at hs
        · assumption
        · omega
    have b1 := Int.mul_pos hm p1
    have b2 := Int.mul_pos h0 p2
    unfold cmpZ
    rw [if_pos (by omega), if_neg (by omega), if_pos hm]
    rfl
theorem cmpZ_swap (a b : Int) : cmpZ b a = 0 - cmpZ a b := by unfold cmpZ; split <;> split <;> (try split) <;> (try split) <;> omega
theorem holdZ_swap (m e l f : Int) : holdZ l f m e = 0 - holdZ m e l f := by unfold holdZ; exact cmpZ_swap _ _
theorem sgn_hold {m e l f : Int} (h : cmpZ m 0 ≠ cmpZ l 0 ∨ cmpZ m 0 = 0) : holdZ m e l f = cmpZ (cmpZ m 0 - cmpZ l 0) 0 := by
  unfold holdZ
  have p1 : (0 : Int) < 2 ^ (e - f).toNat := Int.pow_pos (by omega)
  have p2 : (0 : Int) < 2 ^ (f - e).toNat := Int.pow_pos (by omega)
  have key : ∀ (x p : Int), 0 < p → (x < 0 ∧ x * p < 0) ∨ (x = 0 ∧ x * p = 0) ∨ (0 < x ∧ 0 < x * p) := by
    intro x p hp
    rcases Int.lt_trichotomy x 0 with h | h | h
    · exact .inl ⟨h, Int.mul_neg_of_neg_of_pos h hp⟩
    · exact .inr (.inl ⟨h, by rw [h, Int.zero_mul]⟩)
    · exact .inr (.inr ⟨h, Int.mul_pos h hp⟩)
  have k1 := key m _ p1
  have k2 := key l _ p2
  generalize m * 2 ^ (e - f).toNat = u at *
  generalize l * 2 ^ (f - e).toNat = v at *
  have c1 : (m < 0 ∧ cmpZ m 0 = -1) ∨ (m = 0 ∧ cmpZ m 0 = 0) ∨ (0 < m ∧ cmpZ m 0 = 1) := by unfold cmpZ; split <;> (try split) <;> omega
  have c2 : (l < 0 ∧ cmpZ l 0 = -1) ∨ (l = 0 ∧ cmpZ l 0 = 0) ∨ (0 < l ∧ cmpZ l 0 = 1) := by unfold cmpZ; split <;> (try split) <;> omega
  generalize cmpZ m 0 = s at *
  generalize cmpZ l 0 = t at *
  unfold cmpZ
  split <;> split <;> (try split) <;> (try split) <;> omega
theorem J {m l : Bool × List Int} {e f : Int} (hm : Zok m) (hl : Zok l) (h1 : m.2.length ≤ 1048576) (h2 : l.2.length ≤ 1048576) (h3 : -16777216 ≤ e ∧ e ≤ 16777216) (h4 : -16777216 ≤ f ∧ f ≤ 16777216) (hs : cmpZ (zv m) 0 = cmpZ (zv l) 0) (hz : cmpZ (zv m) 0 ≠ 0) :
    J3 e f m.1 m.2 l.1 l.2 = some [D.s (.sc (.int .i64 (holdZ (zv m) e (zv l) f)))] := by
  have b1 : bl (val m.2) ≤ 32 * 1048576 := bl_len hm.1.dig (by omega)
  have b2 : bl (val l.2) ≤ 32 * 1048576 := bl_len hl.1.dig (by omega)
  have em : (m.1, m.2) = m := rfl
  have el : (l.1, l.2) = l := rfl
  have hm0 : zv m ≠ 0 := fun h => hz (by rw [h]; rfl)
  have hl0 : zv l ≠ 0 := fun h => hz (by rw [hs, h]; rfl)
  rw [J3_eq, em, el, gP hm, gP ⟨hm.1, by omega⟩, gP ⟨hl.1, by omega⟩, wrap_i64 (n := (bl (val m.2) : Int) + e) (by omega) (by omega), wrap_i64 (n := (bl (val l.2) : Int) + f) (by omega) (by omega)]
  by_cases c1 : (bl (val m.2) : Int) + e < bl (val l.2) + f
  · rw [bD_pos c1, holdZ_lt (by rw [zv_abs, zv_abs]; exact c1) hl0 hs, wrap_i64]
    · unfold cmpZ; split <;> (try split) <;> omega
    · unfold cmpZ; split <;> (try split) <;> omega
  · rw [bD_neg c1]
    by_cases c2 : (bl (val l.2) : Int) + f < bl (val m.2) + e
    · rw [bD_pos c2, holdZ_swap, holdZ_lt (by rw [zv_abs, zv_abs]; exact c2) hm0 hs.symm, ← hs]
      congr 5
      omega
    · rw [bD_neg c2]
      have sh : ∀ (x : Bool × List Int) (k : Int), Zok x → x.2.length ≤ 1048576 → k ≤ 33554432 → (dg (zv x * 2 ^ k.toNat).natAbs).length < 549755813888 := by
        intro x k hx hxl hk
        have e1 : (zv x * 2 ^ k.toNat).natAbs = val x.2 * 2 ^ k.toNat := by rw [Int.natAbs_mul, zv_abs, Int.natAbs_pow]; rfl
        have := len_dg_shl (val x.2) k.toNat
        rw [nrm_len hx.1] at this
        rw [e1]; omega
      by_cases c3 : f < e
      · have s1 := sh m (e - f) hm h1 (by omega)
        rw [bD_pos c3, wrap_i64 (n := e - f) (by omega) (by omega), gP ⟨hm, by omega⟩, gP ⟨zok_zD (by omega), hl, s1, by omega⟩, zv_zD]
        unfold holdZ
        rw [show (f - e).toNat = 0 from by omega, Int.pow_zero, Int.mul_one]
      · have s1 := sh l (f - e) hl h2 (by omega)
        rw [bD_neg c3, wrap_i64 (n := f - e) (by omega) (by omega), gP ⟨hl, by omega⟩, gP ⟨hm, zok_zD (by omega), by omega, s1⟩, zv_zD]
        unfold holdZ
        rw [show (e - f).toNat = 0 from by omega, Int.pow_zero, Int.mul_one]
theorem spec (m : Bool × List Int) (e : Int) (l : Bool × List Int) (f : Int) (h : (sp m e l f).1) : evalFn E Try.f29 cod [(pG (.pair sB (sI .u32))).put m, (pN .i64).put e, (pG (.pair sB (sI .u32))).put l, (pN .i64).put f] = some (sp m e l f).2 := by
  refine (start m.1 m.2 e l.1 l.2 f).trans ?_
  obtain ⟨hm, hl, h1, h2, h3, h4⟩ := h
  have em : (m.1, m.2) = m := rfl
  have el : (l.1, l.2) = l := rfl
  have c1 : -1 ≤ cmpZ (zv m) 0 ∧ cmpZ (zv m) 0 ≤ 1 := by unfold cmpZ; split <;> (try split) <;> omega
  have c2 : -1 ≤ cmpZ (zv l) 0 ∧ cmpZ (zv l) 0 ≤ 1 := by unfold cmpZ; split <;> (try split) <;> omega
  have ew : IntKind.i64.wrap (cmpZ (zv m) 0 - cmpZ (zv l) 0) = cmpZ (zv m) 0 - cmpZ (zv l) 0 := wrap_i64 (by omega) (by omega)
  have hz : Zok (isNeg (cmpZ (zv m) 0 - cmpZ (zv l) 0), dg (cmpZ (zv m) 0 - cmpZ (zv l) 0).natAbs) := zok_bits (k := 2) (by omega) (by omega)
  rw [em, el, gP hm, gP hl, ew, gP hm, gP hl, gP ⟨by omega, by omega⟩, gP hz, zv_zD]
  show _ = some [D.s (.sc (.int .i64 (holdZ (zv m) e (zv l) f)))]
  by_cases n1 : cmpZ (zv m) 0 = cmpZ (zv l) 0
  · rw [bN_neg n1, gP hm]
    by_cases n2 : cmpZ (zv m) 0 = 0
    · rw [bE_pos n2, sgn_hold (.inr n2)]
    · rw [bE_neg n2]
      exact J hm hl h1 h2 h3 h4 n1 n2
  · rw [bN_pos n1, sgn_hold (.inl n1)]

noncomputable def orc : Orc := orc4 (pG (.pair sB (sI .u32))) (pN .i64) (pG (.pair sB (sI .u32))) (pN .i64) sp
theorem fnok : FnOk Try.prog E 29 Try.f29 cod := fnOk ty_ok mixed (callsOk_of _ rfl (orcs_cons ZSign.ok (orcs_cons ZOf.ok (orcs_cons Bits.ok (orcs_cons ZCmp.ok (orcs_cons ZShl.ok orcs_nil))))) (ext_ok)) Try.func29 rfl rfl rfl
theorem ok : OrcOk Try.prog base.glob 29 orc := fnok.ok4 rfl spec
end Hold7
end Go.Proofs.Ytnhebddoclhnnaa.W

/- gnomon/gnomonref10.Round -/
namespace Go.Proofs.Ytnhebddoclhnnaa.W
open Go Go.Proofs.Ytnhebddoclhnnaa.AI Go.Proofs.Ytnhebddoclhnnaa.M
namespace Round10
noncomputable def E : Env := { ({ base with C := callsOf [(13, Bits.orc), (14, Shl.orc), (15, Shr.orc), (26, Size7.orc), (28, Whole7.orc), (27, ZAdd.orc), (29, Hold7.orc), (11, Mk.orc)] }) with nt := 89, own := [], keep := fun k => (tlook [] k).getD [], cut := tlook [(6, [1, 2, 3]), (10, [1, 2, 3, 8])] }
noncomputable def cod : Code := (Go.Proofs.Try.f19.body).getD .skip
theorem nok : namesOk E cod = true := by kernel_rfl
noncomputable def J6 (xs0 : List Int) (x1 : Int) (x2 : Int) (x3 : Int) (x4 : Int) (x5 : Int) (x6 : Int) (x7 : Int) : Option (List D) := ctO E Go.Proofs.Try.f19 cod 6 [(A.v (V.one (L.s (S.ints IntKind.u32 xs0))), none), (A.v (V.one (L.s (S.sc (Value.int IntKind.i64 x1)))), none), (A.v (V.one (L.ptr (2 : Nat) (0 : Nat))), some { e := (45 : Nat), cont := Cont.cells [S.sc (Value.int IntKind.u64 x2), S.sc (Value.int IntKind.i64 x3), S.sc (Value.int IntKind.i64 x4), S.sc (Value.int IntKind.i64 x5), S.sc (Value.int IntKind.u64 x6), S.sc (Value.int IntKind.u64 x7)] })]
noncomputable def J10 (xs0 : List Int) (x1 : Int) (x2 : Int) (x3 : Int) (x4 : Int) (x5 : Int) (x6 : Int) (x7 : Int) (xs8 : List Int) : Option (List D) := ctO E Go.Proofs.Try.f19 cod 10 [(A.v (V.one (L.s (S.ints IntKind.u32 xs0))), none), (A.v (V.one (L.s (S.sc (Value.int IntKind.i64 x1)))), none), (A.v (V.one (L.ptr (2 : Nat) (0 : Nat))), some { e := (45 : Nat), cont := Cont.cells [S.sc (Value.int IntKind.u64 x2), S.sc (Value.int IntKind.i64 x3), S.sc (Value.int IntKind.i64 x4), S.sc (Value.int IntKind.i64 x5), S.sc (Value.int IntKind.u64 x6), S.sc (Value.int IntKind.u64 x7)] }), (A.v (V.one (L.s (S.ints IntKind.u32 xs8))), none)]
theorem start (a1 : Int) (a2 : Int) (a3 : Int) (a4 : Int) (a5 : Int) (a6 : Int) (b : List Int) (c : Int) : evalFn E Go.Proofs.Try.f19 cod [D.agg [S.sc (Value.int IntKind.u64 a1), S.sc (Value.int IntKind.i64 a2), S.sc (Value.int IntKind.i64 a3), S.sc (Value.int IntKind.i64 a4), S.sc (Value.int IntKind.u64 a5), S.sc (Value.int IntKind.u64 a6)], D.s (S.ints IntKind.u32 b), D.s (S.sc (Value.int IntKind.i64 c))] = gif (Nrm b ∧ b.length ≤ (4398046511104 : Nat)) (bcase ((↑b.length : Int) == (0 : Int)) (some [D.s (S.sc (Value.int IntKind.u64 (0 : Int)))]) (bcase (decide (IntKind.i64.wrap ((↑(bl (val b)) : Int) + c) < a3)) (some [D.s (S.sc (Value.int IntKind.u64 (0 : Int)))]) (bcase (decide (IntKind.i64.wrap (a4 + a2) < IntKind.i64.wrap ((↑(bl (val b)) : Int) + c))) (some [D.s (S.sc (Value.int IntKind.u64 a5))]) (Round10.J6 b c a1 a2 a3 a4 a5 a6)))) := (evalFn_J rfl nok _).trans (by kernel_rfl)
theorem J6_eq (xs0 : List Int) (x1 : Int) (x2 : Int) (x3 : Int) (x4 : Int) (x5 : Int) (x6 : Int) (x7 : Int) : J6 xs0 x1 x2 x3 x4 x5 x6 x7 = bcase (decide (x4 ≤ x1)) (gif (Nrm xs0 ∧ xs0.length ≤ (1099511627776 : Nat) ∧ IntKind.i64.wrap (x1 - x4) ≤ (1099511627776 : Int)) (Round10.J10 xs0 x1 x2 x3 x4 x5 x6 x7 (dg (val xs0 * (2 : Nat) ^ (IntKind.i64.wrap (x1 - x4)).toNat)))) (gif (Dig xs0 ∧ xs0.length ≤ (1099511627776 : Nat) ∧ IntKind.i64.wrap (x4 - x1) < (9223372036854775808 : Int)) (Round10.J10 xs0 x1 x2 x3 x4 x5 x6 x7 (dg (val xs0 / (2 : Nat) ^ (IntKind.i64.wrap (x4 - x1)).toNat)))) := (cutAt_J rfl nok 6 _).trans (by kernel_rfl)
theorem J10_eq (xs0 : List Int) (x1 : Int) (x2 : Int) (x3 : Int) (x4 : Int) (x5 : Int) (x6 : Int) (x7 : Int) (xs8 : List Int) : J10 xs0 x1 x2 x3 x4 x5 x6 x7 xs8 = gif (IsK (x2, x3, x4, x5, x6, x7) ∧ Nrm xs8 ∧ bl (val xs8) ≤ (2200 : Nat))
  (gif (IsK (x2, x3, x4, x5, x6, x7) ∧ (0 : Int) ≤ (↑(sizeN (x2, x3, x4, x5, x6, x7) (val xs8)) : Int) ∧ (↑(sizeN (x2, x3, x4, x5, x6, x7) (val xs8)) : Int) < (18446744073709551616 : Int) ∧ (↑(sizeN (x2, x3, x4, x5, x6, x7) (val xs8)) : Int) % (x2, x3, x4, x5, x6, x7).fst ≤ kI (x2, x3, x4, x5, x6, x7) + (1 : Int))
    (gif (IsK (x2, x3, x4, x5, x6, x7) ∧ (0 : Int) ≤ IntKind.u64.wrap ((↑(sizeN (x2, x3, x4, x5, x6, x7) (val xs8)) : Int) + (1 : Int)) ∧ IntKind.u64.wrap ((↑(sizeN (x2, x3, x4, x5, x6, x7) (val xs8)) : Int) + (1 : Int)) < (18446744073709551616 : Int) ∧ IntKind.u64.wrap ((↑(sizeN (x2, x3, x4, x5, x6, x7) (val xs8)) : Int) + (1 : Int)) % (x2, x3, x4, x5, x6, x7).fst ≤ kI (x2, x3, x4, x5, x6, x7) + (1 : Int))
      (gif (Zok (isNeg (zs (decide ((x2, x3, x4, x5, x6, x7).fst ≤ (↑(sizeN (x2, x3, x4, x5, x6, x7) (val xs8)) : Int))) (wholeN (x2, x3, x4, x5, x6, x7) ((↑(sizeN (x2, x3, x4, x5, x6, x7) (val xs8)) : Int) % (x2, x3, x4, x5, x6, x7).fst).toNat)), dg (zs (decide ((x2, x3, x4, x5, x6, x7).fst ≤ (↑(sizeN (x2, x3, x4, x5, x6, x7) (val xs8)) : Int))) (wholeN (x2, x3, x4, x5, x6, x7) ((↑(sizeN (x2, x3, x4, x5, x6, x7) (val xs8)) : Int) % (x2, x3, x4, x5, x6, x7).fst).toNat)).natAbs) ∧ Zok (isNeg (zs (decide ((x2, x3, x4, x5, x6, x7).fst ≤ IntKind.u64.wrap ((↑(sizeN (x2, x3, x4, x5, x6, x7) (val xs8)) : Int) + (1 : Int)))) (wholeN (x2, x3, x4, x5, x6, x7) (IntKind.u64.wrap ((↑(sizeN (x2, x3, x4, x5, x6, x7) (val xs8)) : Int) + (1 : Int)) % (x2, x3, x4, x5, x6, x7).fst).toNat)), dg (zs (decide ((x2, x3, x4, x5, x6, x7).fst ≤ IntKind.u64.wrap ((↑(sizeN (x2, x3, x4, x5, x6, x7) (val xs8)) : Int) + (1 : Int)))) (wholeN (x2, x3, x4, x5, x6, x7) (IntKind.u64.wrap ((↑(sizeN (x2, x3, x4, x5, x6, x7) (val xs8)) : Int) + (1 : Int)) % (x2, x3, x4, x5, x6, x7).fst).toNat)).natAbs))
        (gif (Dig xs0 ∧ xs0.length ≤ (4398046511104 : Nat))
          (gif
            (Zok (isNeg (zs false (val xs0)), dg (zs false (val xs0)).natAbs) ∧
              Zok (isNeg (zv (isNeg (zs (decide ((x2, x3, x4, x5, x6, x7).fst ≤ (↑(sizeN (x2, x3, x4, x5, x6, x7) (val xs8)) : Int))) (wholeN (x2, x3, x4, x5, x6, x7) ((↑(sizeN (x2, x3, x4, x5, x6, x7) (val xs8)) : Int) % (x2, x3, x4, x5, x6, x7).fst).toNat)), dg (zs (decide ((x2, x3, x4, x5, x6, x7).fst ≤ (↑(sizeN (x2, x3, x4, x5, x6, x7) (val xs8)) : Int))) (wholeN (x2, x3, x4, x5, x6, x7) ((↑(sizeN (x2, x3, x4, x5, x6, x7) (val xs8)) : Int) % (x2, x3, x4, x5, x6, x7).fst).toNat)).natAbs) + zv (isNeg (zs (decide ((x2, x3, x4, x5, x6, x7).fst ≤ IntKind.u64.wrap ((↑(sizeN (x2, x3, x4, x5, x6, x7) (val xs8)) : Int) + (1 : Int)))) (wholeN (x2, x3, x4, x5, x6, x7) (IntKind.u64.wrap ((↑(sizeN (x2, x3, x4, x5, x6, x7) (val xs8)) : Int) + (1 : Int)) % (x2, x3, x4, x5, x6, x7).fst).toNat)), dg (zs (decide ((x2, x3, x4, x5, x6, x7).fst ≤ IntKind.u64.wrap ((↑(sizeN (x2, x3, x4, x5, x6, x7) (val xs8)) : Int) + (1 : Int)))) (wholeN (x2, x3, x4, x5, x6, x7) (IntKind.u64.wrap ((↑(sizeN (x2, x3, x4, x5, x6, x7) (val xs8)) : Int) + (1 : Int)) % (x2, x3, x4, x5, x6, x7).fst).toNat)).natAbs)), dg (zv (isNeg (zs (decide ((x2, x3, x4, x5, x6, x7).fst ≤ (↑(sizeN (x2, x3, x4, x5, x6, x7) (val xs8)) : Int))) (wholeN (x2, x3, x4, x5, x6, x7) ((↑(sizeN (x2, x3, x4, x5, x6, x7) (val xs8)) : Int) % (x2, x3, x4, x5, x6, x7).fst).toNat)), dg (zs (decide ((x2, x3, x4, x5, x6, x7).fst ≤ (↑(sizeN (x2, x3, x4, x5, x6, x7) (val xs8)) : Int))) (wholeN (x2, x3, x4, x5, x6, x7) ((↑(sizeN (x2, x3, x4, x5, x6, x7) (val xs8)) : Int) % (x2, x3, x4, x5, x6, x7).fst).toNat)).natAbs) + zv (isNeg (zs (decide ((x2, x3, x4, x5, x6, x7).fst ≤ IntKind.u64.wrap ((↑(sizeN (x2, x3, x4, x5, x6, x7) (val xs8)) : Int) + (1 : Int)))) (wholeN (x2, x3, x4, x5, x6, x7) (IntKind.u64.wrap ((↑(sizeN (x2, x3, x4, x5, x6, x7) (val xs8)) : Int) + (1 : Int)) % (x2, x3, x4, x5, x6, x7).fst).toNat)), dg (zs (decide ((x2, x3, x4, x5, x6, x7).fst ≤ IntKind.u64.wrap ((↑(sizeN (x2, x3, x4, x5, x6, x7) (val xs8)) : Int) + (1 : Int)))) (wholeN (x2, x3, x4, x5, x6, x7) (IntKind.u64.wrap ((↑(sizeN (x2, x3, x4, x5, x6, x7) (val xs8)) : Int) + (1 : Int)) % (x2, x3, x4, x5, x6, x7).fst).toNat)).natAbs)).natAbs) ∧
                (isNeg (zs false (val xs0)), dg (zs false (val xs0)).natAbs).snd.length ≤ (1048576 : Nat) ∧ (isNeg (zv (isNeg (zs (decide ((x2, x3, x4, x5, x6, x7).fst ≤ (↑(sizeN (x2, x3, x4, x5, x6, x7) (val xs8)) : Int))) (wholeN (x2, x3, x4, x5, x6, x7) ((↑(sizeN (x2, x3, x4, x5, x6, x7) (val xs8)) : Int) % (x2, x3, x4, x5, x6, x7).fst).toNat)), dg (zs (decide ((x2, x3, x4, x5, x6, x7).fst ≤ (↑(sizeN (x2, x3, x4, x5, x6, x7) (val xs8)) : Int))) (wholeN (x2, x3, x4, x5, x6, x7) ((↑(sizeN (x2, x3, x4, x5, x6, x7) (val xs8)) : Int) % (x2, x3, x4, x5, x6, x7).fst).toNat)).natAbs) + zv (isNeg (zs (decide ((x2, x3, x4, x5, x6, x7).fst ≤ IntKind.u64.wrap ((↑(sizeN (x2, x3, x4, x5, x6, x7) (val xs8)) : Int) + (1 : Int)))) (wholeN (x2, x3, x4, x5, x6, x7) (IntKind.u64.wrap ((↑(sizeN (x2, x3, x4, x5, x6, x7) (val xs8)) : Int) + (1 : Int)) % (x2, x3, x4, x5, x6, x7).fst).toNat)), dg (zs (decide ((x2, x3, x4, x5, x6, x7).fst ≤ IntKind.u64.wrap ((↑(sizeN (x2, x3, x4, x5, x6, x7) (val xs8)) : Int) + (1 : Int)))) (wholeN (x2, x3, x4, x5, x6, x7) (IntKind.u64.wrap ((↑(sizeN (x2, x3, x4, x5, x6, x7) (val xs8)) : Int) + (1 : Int)) % (x2, x3, x4, x5, x6, x7).fst).toNat)).natAbs)), dg (zv (isNeg (zs (decide ((x2, x3, x4, x5, x6, x7).fst ≤ (↑(sizeN (x2, x3, x4, x5, x6, x7) (val xs8)) : Int))) (wholeN (x2, x3, x4, x5, x6, x7) ((↑(sizeN (x2, x3, x4, x5, x6, x7) (val xs8)) : Int) % (x2, x3, x4, x5, x6, x7).fst).toNat)), dg (zs (decide ((x2, x3, x4, x5, x6, x7).fst ≤ (↑(sizeN (x2, x3, x4, x5, x6, x7) (val xs8)) : Int))) (wholeN (x2, x3, x4, x5, x6, x7) ((↑(sizeN (x2, x3, x4, x5, x6, x7) (val xs8)) : Int) % (x2, x3, x4, x5, x6, x7).fst).toNat)).natAbs) + zv (isNeg (zs (decide ((x2, x3, x4, x5, x6, x7).fst ≤ IntKind.u64.wrap ((↑(sizeN (x2, x3, x4, x5, x6, x7) (val xs8)) : Int) + (1 : Int)))) (wholeN (x2, x3, x4, x5, x6, x7) (IntKind.u64.wrap ((↑(sizeN (x2, x3, x4, x5, x6, x7) (val xs8)) : Int) + (1 : Int)) % (x2, x3, x4, x5, x6, x7).fst).toNat)), dg (zs (decide ((x2, x3, x4, x5, x6, x7).fst ≤ IntKind.u64.wrap ((↑(sizeN (x2, x3, x4, x5, x6, x7) (val xs8)) : Int) + (1 : Int)))) (wholeN (x2, x3, x4, x5, x6, x7) (IntKind.u64.wrap ((↑(sizeN (x2, x3, x4, x5, x6, x7) (val xs8)) : Int) + (1 : Int)) % (x2, x3, x4, x5, x6, x7).fst).toNat)).natAbs)).natAbs).snd.length ≤ (1048576 : Nat) ∧ ((-16777216 : Int) ≤ x1 ∧ x1 ≤ (16777216 : Int)) ∧ (-16777216 : Int) ≤ IntKind.i64.wrap (x4 - (1 : Int)) ∧ IntKind.i64.wrap (x4 - (1 : Int)) ≤ (16777216 : Int))
            (bcase (decide ((0 : Int) < holdZ (zv (isNeg (zs false (val xs0)), dg (zs false (val xs0)).natAbs)) x1 (zv (isNeg (zv (isNeg (zs (decide ((x2, x3, x4, x5, x6, x7).fst ≤ (↑(sizeN (x2, x3, x4, x5, x6, x7) (val xs8)) : Int))) (wholeN (x2, x3, x4, x5, x6, x7) ((↑(sizeN (x2, x3, x4, x5, x6, x7) (val xs8)) : Int) % (x2, x3, x4, x5, x6, x7).fst).toNat)), dg (zs (decide ((x2, x3, x4, x5, x6, x7).fst ≤ (↑(sizeN (x2, x3, x4, x5, x6, x7) (val xs8)) : Int))) (wholeN (x2, x3, x4, x5, x6, x7) ((↑(sizeN (x2, x3, x4, x5, x6, x7) (val xs8)) : Int) % (x2, x3, x4, x5, x6, x7).fst).toNat)).natAbs) + zv (isNeg (zs (decide ((x2, x3, x4, x5, x6, x7).fst ≤ IntKind.u64.wrap ((↑(sizeN (x2, x3, x4, x5, x6, x7) (val xs8)) : Int) + (1 : Int)))) (wholeN (x2, x3, x4, x5, x6, x7) (IntKind.u64.wrap ((↑(sizeN (x2, x3, x4, x5, x6, x7) (val xs8)) : Int) + (1 : Int)) % (x2, x3, x4, x5, x6, x7).fst).toNat)), dg (zs (decide ((x2, x3, x4, x5, x6, x7).fst ≤ IntKind.u64.wrap ((↑(sizeN (x2, x3, x4, x5, x6, x7) (val xs8)) : Int) + (1 : Int)))) (wholeN (x2, x3, x4, x5, x6, x7) (IntKind.u64.wrap ((↑(sizeN (x2, x3, x4, x5, x6, x7) (val xs8)) : Int) + (1 : Int)) % (x2, x3, x4, x5, x6, x7).fst).toNat)).natAbs)), dg (zv (isNeg (zs (decide ((x2, x3, x4, x5, x6, x7).fst ≤ (↑(sizeN (x2, x3, x4, x5, x6, x7) (val xs8)) : Int))) (wholeN (x2, x3, x4, x5, x6, x7) ((↑(sizeN (x2, x3, x4, x5, x6, x7) (val xs8)) : Int) % (x2, x3, x4, x5, x6, x7).fst).toNat)), dg (zs (decide ((x2, x3, x4, x5, x6, x7).fst ≤ (↑(sizeN (x2, x3, x4, x5, x6, x7) (val xs8)) : Int))) (wholeN (x2, x3, x4, x5, x6, x7) ((↑(sizeN (x2, x3, x4, x5, x6, x7) (val xs8)) : Int) % (x2, x3, x4, x5, x6, x7).fst).toNat)).natAbs) + zv (isNeg (zs (decide ((x2, x3, x4, x5, x6, x7).fst ≤ IntKind.u64.wrap ((↑(sizeN (x2, x3, x4, x5, x6, x7) (val xs8)) : Int) + (1 : Int)))) (wholeN (x2, x3, x4, x5, x6, x7) (IntKind.u64.wrap ((↑(sizeN (x2, x3, x4, x5, x6, x7) (val xs8)) : Int) + (1 : Int)) % (x2, x3, x4, x5, x6, x7).fst).toNat)), dg (zs (decide ((x2, x3, x4, x5, x6, x7).fst ≤ IntKind.u64.wrap ((↑(sizeN (x2, x3, x4, x5, x6, x7) (val xs8)) : Int) + (1 : Int)))) (wholeN (x2, x3, x4, x5, x6, x7) (IntKind.u64.wrap ((↑(sizeN (x2, x3, x4, x5, x6, x7) (val xs8)) : Int) + (1 : Int)) % (x2, x3, x4, x5, x6, x7).fst).toNat)).natAbs)).natAbs)) (IntKind.i64.wrap (x4 - (1 : Int))))) (some [D.s (S.sc (Value.int IntKind.u64 (if x6 < IntKind.u64.wrap ((↑(sizeN (x2, x3, x4, x5, x6, x7) (val xs8)) : Int) + (1 : Int)) then x6 else IntKind.u64.wrap ((↑(sizeN (x2, x3, x4, x5, x6, x7) (val xs8)) : Int) + (1 : Int)))))])
              (bcase (holdZ (zv (isNeg (zs false (val xs0)), dg (zs false (val xs0)).natAbs)) x1 (zv (isNeg (zv (isNeg (zs (decide ((x2, x3, x4, x5, x6, x7).fst ≤ (↑(sizeN (x2, x3, x4, x5, x6, x7) (val xs8)) : Int))) (wholeN (x2, x3, x4, x5, x6, x7) ((↑(sizeN (x2, x3, x4, x5, x6, x7) (val xs8)) : Int) % (x2, x3, x4, x5, x6, x7).fst).toNat)), dg (zs (decide ((x2, x3, x4, x5, x6, x7).fst ≤ (↑(sizeN (x2, x3, x4, x5, x6, x7) (val xs8)) : Int))) (wholeN (x2, x3, x4, x5, x6, x7) ((↑(sizeN (x2, x3, x4, x5, x6, x7) (val xs8)) : Int) % (x2, x3, x4, x5, x6, x7).fst).toNat)).natAbs) + zv (isNeg (zs (decide ((x2, x3, x4, x5, x6, x7).fst ≤ IntKind.u64.wrap ((↑(sizeN (x2, x3, x4, x5, x6, x7) (val xs8)) : Int) + (1 : Int)))) (wholeN (x2, x3, x4, x5, x6, x7) (IntKind.u64.wrap ((↑(sizeN (x2, x3, x4, x5, x6, x7) (val xs8)) : Int) + (1 : Int)) % (x2, x3, x4, x5, x6, x7).fst).toNat)), dg (zs (decide ((x2, x3, x4, x5, x6, x7).fst ≤ IntKind.u64.wrap ((↑(sizeN (x2, x3, x4, x5, x6, x7) (val xs8)) : Int) + (1 : Int)))) (wholeN (x2, x3, x4, x5, x6, x7) (IntKind.u64.wrap ((↑(sizeN (x2, x3, x4, x5, x6, x7) (val xs8)) : Int) + (1 : Int)) % (x2, x3, x4, x5, x6, x7).fst).toNat)).natAbs)), dg (zv (isNeg (zs (decide ((x2, x3, x4, x5, x6, x7).fst ≤ (↑(sizeN (x2, x3, x4, x5, x6, x7) (val xs8)) : Int))) (wholeN (x2, x3, x4, x5, x6, x7) ((↑(sizeN (x2, x3, x4, x5, x6, x7) (val xs8)) : Int) % (x2, x3, x4, x5, x6, x7).fst).toNat)), dg (zs (decide ((x2, x3, x4, x5, x6, x7).fst ≤ (↑(sizeN (x2, x3, x4, x5, x6, x7) (val xs8)) : Int))) (wholeN (x2, x3, x4, x5, x6, x7) ((↑(sizeN (x2, x3, x4, x5, x6, x7) (val xs8)) : Int) % (x2, x3, x4, x5, x6, x7).fst).toNat)).natAbs) + zv (isNeg (zs (decide ((x2, x3, x4, x5, x6, x7).fst ≤ IntKind.u64.wrap ((↑(sizeN (x2, x3, x4, x5, x6, x7) (val xs8)) : Int) + (1 : Int)))) (wholeN (x2, x3, x4, x5, x6, x7) (IntKind.u64.wrap ((↑(sizeN (x2, x3, x4, x5, x6, x7) (val xs8)) : Int) + (1 : Int)) % (x2, x3, x4, x5, x6, x7).fst).toNat)), dg (zs (decide ((x2, x3, x4, x5, x6, x7).fst ≤ IntKind.u64.wrap ((↑(sizeN (x2, x3, x4, x5, x6, x7) (val xs8)) : Int) + (1 : Int)))) (wholeN (x2, x3, x4, x5, x6, x7) (IntKind.u64.wrap ((↑(sizeN (x2, x3, x4, x5, x6, x7) (val xs8)) : Int) + (1 : Int)) % (x2, x3, x4, x5, x6, x7).fst).toNat)).natAbs)).natAbs)) (IntKind.i64.wrap (x4 - (1 : Int))) == (0 : Int)) (bcase ((↑(sizeN (x2, x3, x4, x5, x6, x7) (val xs8)) : Int).tmod (2 : Int) == (1 : Int)) (some [D.s (S.sc (Value.int IntKind.u64 (if x6 < IntKind.u64.wrap ((↑(sizeN (x2, x3, x4, x5, x6, x7) (val xs8)) : Int) + (1 : Int)) then x6 else IntKind.u64.wrap ((↑(sizeN (x2, x3, x4, x5, x6, x7) (val xs8)) : Int) + (1 : Int)))))]) (some [D.s (S.sc (Value.int IntKind.u64 (if x6 < (↑(sizeN (x2, x3, x4, x5, x6, x7) (val xs8)) : Int) then x6 else (↑(sizeN (x2, x3, x4, x5, x6, x7) (val xs8)) : Int))))])) (some [D.s (S.sc (Value.int IntKind.u64 (if x6 < (↑(sizeN (x2, x3, x4, x5, x6, x7) (val xs8)) : Int) then x6 else (↑(sizeN (x2, x3, x4, x5, x6, x7) (val xs8)) : Int))))])))))))) := (cutAt_J rfl nok 10 _).trans (by kernel_rfl)
-- stuck: 0
end Round10
namespace Round10
noncomputable def sp (k : K6) (m : List Int) (e : Int) : Prop × List D := (IsK k ∧ Nrm m ∧ m.length ≤ 1048576 ∧ (-8388608 ≤ e ∧ e ≤ 8388608), [.s (.sc (.int .u64 (roundN k (val m) e)))])
/-- What is so of both formats. -/
structure KOk (k : K6) : Prop where
  kk : IsK k
  h1 : 1 < kH k
  h2 : kH k ≤ 4503599627370496
  hp : kH k = 2 ^ (kP k - 1)
  p : k.2.1 = (kP k : Int)
  p1 : 1 < kP k
  p2 : kP k ≤ 53
  e : -1074 ≤ kE k ∧ kE k ≤ 0
  g : 0 ≤ kG k ∧ kG k ≤ 971
  i : kI k = (kG k - kE k + 2) * kH k
  i0 : kI k ≤ 9218868437227405312
  s : 2 * kH k * 2048 ≥ 0
  S : kI k + 1 < k.1
  S' : k.1 ≤ 9223372036854775808
theorem kok_t : KOk (kf true) := ⟨.inl rfl, by rw [Parts7.kH_t]; omega, by rw [Parts7.kH_t]; omega, by rw [Parts7.kH_t]; kernel_rfl, rfl, by simp [kP, kf], by simp [kP, kf], by simp [kE, kf], by simp [kG, kf], by rw [Parts7.kH_t]; kernel_rfl, by simp [kI, kf], by omega, by simp [kI, kf], by simp [kf]⟩
theorem kok_f : KOk (kf false) := ⟨.inr rfl, by rw [Parts7.kH_f]; omega, by rw [Parts7.kH_f]; omega, by rw [Parts7.kH_f]; kernel_rfl, rfl, by simp [kP, kf], by simp [kP, kf], by simp [kE, kf], by simp [kG, kf], by rw [Parts7.kH_f]; kernel_rfl, by simp [kI, kf], by omega, by simp [kI, kf], by simp [kf]⟩
theorem kok {k : K6} (h : IsK k) : KOk k := h.elim (fun h => h ▸ kok_t) (fun h => h ▸ kok_f)

theorem sizeN_lt {k : K6} (h : KOk k) {u : Nat} (hb : (bl u : Int) ≤ kG k + kP k - kE k) : (sizeN k u : Int) < kI k := by
  have h1 := h.h1
  have hg := h.g
  have he := h.e
  have hi := h.i
  unfold sizeN
  by_cases hp : bl u < kP k
  · rw [if_pos hp]
    have : u < 2 ^ (kP k - 1) := by rw [← bl_le]; omega
    rw [← h.hp] at this
    rw [hi]
    have : (2 : Int) * kH k ≤ (kG k - kE k + 2) * kH k := Int.mul_le_mul_of_nonneg_right (by omega) (by omega)
    omega
  · rw [if_neg hp]
    have hq : u / 2 ^ (bl u - kP k) < 2 * kH k := by
      have e2 : 2 * kH k = 2 ^ kP k := by have := h.p1; rw [h.hp, ← Nat.pow_succ']; congr 1; omega
      rw [e2]
      apply Nat.div_lt_of_lt_mul
      rw [← Nat.pow_add, ← bl_le]; omega
    have h3 : ((bl u - kP k : Nat) : Int) * kH k ≤ (kG k - kE k) * kH k := Int.mul_le_mul_of_nonneg_right (by omega) (by omega)
    rw [hi, Int.add_mul]
    rw [Int.natCast_add, Int.natCast_mul]
    generalize u / 2 ^ (bl u - kP k) = v at *
    omega

theorem wholeN_bl {k : K6} (h : KOk k) {s : Nat} (hs : (s : Int) ≤ kI k + 1) : bl (wholeN k s) ≤ 2300 := by
  have h1 := h.h1
  have h2 := h.h2
  have hi := h.i
  have hg := h.g
  have he := h.e
  have hm : bl (partM k s) ≤ 53 := by
    rw [bl_le]
    unfold partM
    split
    · rename_i h0
      have := (Nat.div_eq_zero_iff_lt (by omega : 0 < kH k)).1 h0
      omega
    · have := Nat.mod_lt s (show 0 < kH k by omega)
      omega
  have hq : s / kH k < 2200 := by
    apply Nat.div_lt_of_lt_mul
    have : (kG k - kE k + 2) * kH k ≤ 2100 * kH k := Int.mul_le_mul_of_nonneg_right (by omega) (by omega)
    have e : kH k * 2200 = 2200 * kH k := Nat.mul_comm _ _
    omega
  have hx : partX k s ≤ 2200 := by unfold partX; omega
  unfold wholeN
  by_cases hz : partM k s = 0
  · rw [hz, Nat.zero_mul]; exact Nat.zero_le _
  · rw [Nat.mul_comm, bl_mul hz]; omega

theorem J10l {k : K6} (h : KOk k) {m u : List Int} {e : Int} (hm : Nrm m) (hml : m.length ≤ 1048576) (he : -8388608 ≤ e ∧ e ≤ 8388608) (hu : Nrm u) (hb : (bl (val u) : Int) ≤ kG k + kP k - kE k) :
    J10 m e k.1 (kP k) (kE k) (kG k) (kI k) k.2.2.2.2.2 u = some [D.s (.sc (.int .u64 (roundS k (val m) e (sizeN k (val u)))))] := by
  have hs := sizeN_lt h hb
  have hg := h.g
  have hE := h.e
  have hp2 := h.p2
  have hS := h.S
  have hS' := h.S'
  have hI := h.i0
  have hK : (k.1, (kP k : Int), kE k, kG k, kI k, k.2.2.2.2.2) = k := by rw [← h.p]; rfl
  rw [J10_eq]
  generalize hK2 : (k.1, (kP k : Int), kE k, kG k, kI k, k.2.2.2.2.2) = k2
  have : k = k2 := by rw [← hK2, hK]
  subst this
  clear hK2 hK
  generalize sizeN k (val u) = s at *
  have e1 : IntKind.u64.wrap ((s : Int) + 1) = ((s + 1 : Nat) : Int) := by rw [wrap_u64 (by omega) (by omega)]; omega
  have e2 : (s : Int) % k.1 = s := Int.emod_eq_of_lt (by omega) (by omega)
  have e3 : ((s + 1 : Nat) : Int) % k.1 = ((s + 1 : Nat) : Int) := Int.emod_eq_of_lt (by omega) (by omega)
  have d1 : decide (k.1 ≤ (s : Int)) = false := decide_eq_false (by omega)
  have d2 : decide (k.1 ≤ ((s + 1 : Nat) : Int)) = false := decide_eq_false (by omega)
  have z1 : ∀ n : Nat, zs false n = (n : Int) := fun n => rfl
  have w1 := wholeN_bl h (s := s) (by omega)
  have w2 := wholeN_bl h (s := s + 1) (by omega)
  have ew : IntKind.i64.wrap (kE k - 1) = kE k - 1 := wrap_i64 (by omega) (by omega)
  have hc : ((wholeN k s : Nat) : Int) + ((wholeN k (s + 1) : Nat) : Int) = ((wholeN k s + wholeN k (s + 1) : Nat) : Int) := by omega
  have n1 : ∀ n : Nat, ((n : Int)).natAbs = n := fun n => rfl
  have ok1 : ∀ n : Nat, bl n ≤ 2301 → Zok (isNeg (n : Int), dg n) := fun n hn => zok_bl (z := (n : Int)) (k := 2301) hn (by omega)
  have w3 : bl (wholeN k s + wholeN k (s + 1)) ≤ 2301 := by have := bl_add_le (wholeN k s) (wholeN k (s + 1)); omega
  have hml2 : Zok (isNeg (val m : Int), dg (val m)) := zok_zD (z := (val m : Int)) (by rw [n1, nrm_len hm]; omega)
  have l3 := len_bl w3
  have zz : ∀ n : Nat, zv (isNeg (n : Int), dg n) = (n : Int) := fun n => zv_zD (n : Int)
  simp only [e1, e2, e3, d1, d2, z1, Int.toNat_natCast, n1, ew, zz, hc]
  rw [gP ⟨h.kk, hu, by omega⟩, gP ⟨h.kk, by omega, by omega, by omega⟩, gP ⟨h.kk, by omega, by omega, by omega⟩, gP ⟨ok1 _ (by omega), ok1 _ (by omega)⟩, gP ⟨hm.dig, by omega⟩,
    gP ⟨hml2, ok1 _ w3, by rw [nrm_len hm]; omega, by omega, by omega, by omega⟩]
  unfold roundS
  generalize holdZ (val m : Int) e ((wholeN k s + wholeN k (s + 1) : Nat) : Int) (kE k - 1) = c
  have emod : (s : Int).tmod 2 = ((s % 2 : Nat) : Int) := by rw [Int.tmod_eq_emod_of_nonneg (by omega)]; omega
  by_cases c1 : 0 < c
  · rw [bD_pos c1, if_neg (show ¬ kI k < ((s + 1 : Nat) : Int) by omega), if_pos (.inl c1)]
    congr 5
    omega
  · rw [bD_neg c1]
    by_cases c2 : c = 0
    · rw [bE_pos c2, emod]
      by_cases c3 : s % 2 = 1
      · rw [bE_pos (by omega), if_neg (show ¬ kI k < ((s + 1 : Nat) : Int) by omega), if_pos (.inr ⟨c2, c3⟩)]
        congr 5
        omega
      · rw [bE_neg (by omega), if_neg (show ¬ kI k < ((s : Nat) : Int) by omega), if_neg (by omega)]
        congr 5
        omega
    · rw [bE_neg c2, if_neg (show ¬ kI k < ((s : Nat) : Int) by omega), if_neg (by omega)]
      congr 5
      omega

theorem spec (k : K6) (m : List Int) (e : Int) (h : (sp k m e).1) : evalFn E Try.f19 cod [(pG (.pair (sN .u64) (.pair (sN .i64) (.pair (sN .i64) (.pair (sN .i64) (.pair (sN .u64) (sN .u64))))))).put k, (pI .u32).put m, (pN .i64).put e] = some (sp k m e).2 := by
  refine (start k.1 k.2.1 k.2.2.1 k.2.2.2.1 k.2.2.2.2.1 k.2.2.2.2.2 m e).trans ?_
  obtain ⟨hk, hm, hl, he⟩ := h
  have h := kok hk
  have hg := h.g
  have hE := h.e
  have hp2 := h.p2
  have hEe : k.2.2.1 = kE k := rfl
  have hIe : k.2.2.2.2.1 = kI k := rfl
  have hGe : k.2.2.2.1 = kG k := rfl
  have hb1 : bl (val m) ≤ 32 * 1048576 := bl_len hm.dig (by omega)
  rw [hEe, hIe, hGe, h.p, gP ⟨hm, by omega⟩, wrap_i64 (n := (bl (val m) : Int) + e) (by omega) (by omega), wrap_i64 (n := kG k + (kP k : Int)) (by omega) (by omega)]
  show _ = some [D.s (.sc (.int .u64 (roundN k (val m) e)))]
  unfold roundN
  by_cases hz : m.length = 0
  · rw [bE_pos (by omega), if_pos (.inl ((len_zero hm).1 hz))]
  · have hv : val m ≠ 0 := fun h => hz ((len_zero hm).2 h)
    rw [bE_neg (by omega)]
    by_cases c1 : (bl (val m) : Int) + e < kE k
    · rw [bD_pos c1, if_pos (.inr c1)]
    · rw [bD_neg c1, if_neg (by omega)]
      by_cases c2 : kG k + kP k < (bl (val m) : Int) + e
      · rw [bD_pos c2, if_pos c2]
      · rw [bD_neg c2, if_neg c2, J6_eq]
        by_cases c3 : kE k ≤ e
        · have ew : IntKind.i64.wrap (e - kE k) = e - kE k := wrap_i64 (by omega) (by omega)
          rw [bD_pos c3, ew, gP ⟨hm, by omega, by omega⟩, if_pos c3, J10l h hm hl he (nrm_dg _) (by rw [val_dg, Nat.mul_comm, bl_mul hv]; omega), val_dg]
        · have ew : IntKind.i64.wrap (kE k - e) = kE k - e := wrap_i64 (by omega) (by omega)
          have hd : bl (val m / 2 ^ (kE k - e).toNat) ≤ bl (val m) - (kE k - e).toNat := by
            rw [bl_le]
            apply Nat.div_lt_of_lt_mul
            rw [← Nat.pow_add, ← bl_le]; omega
          rw [bD_neg c3, ew, gP ⟨hm.dig, by omega, by omega⟩, if_neg c3, J10l h hm hl he (nrm_dg _) (by rw [val_dg]; omega), val_dg]

noncomputable def orc : Orc := orc3 (pG (.pair (sN .u64) (.pair (sN .i64) (.pair (sN .i64) (.pair (sN .i64) (.pair (sN .u64) (sN .u64))))))) (pI .u32) (pN .i64) sp
theorem fnok : FnOk Try.prog E 19 Try.f19 cod := fnOk ty_ok mixed (callsOk_of _ rfl (orcs_cons Bits.ok (orcs_cons Shl.ok (orcs_cons Shr.ok (orcs_cons Size7.ok (orcs_cons Whole7.ok (orcs_cons ZAdd.ok (orcs_cons Hold7.ok (orcs_cons Mk.ok orcs_nil)))))))) (ext_ok)) Try.func19 rfl rfl rfl
theorem ok : OrcOk Try.prog base.glob 19 orc := fnok.ok3 rfl spec
end Round10
end Go.Proofs.Ytnhebddoclhnnaa.W

/- gnomon/gnomonref19.Round -/
namespace Go.Proofs.Ytnhebddoclhnnaa.W
open Go Go.Proofs.Ytnhebddoclhnnaa.AI Go.Proofs.Ytnhebddoclhnnaa.M
namespace Round19
noncomputable def E : Env := { ({ base with C := callsOf [(20, Double19.orc), (19, Round10.orc)] }) with nt := 16, own := [10], keep := fun k => (tlook [] k).getD [], cut := tlook [] }
noncomputable def cod : Code := (Go.Proofs.Try.f10.body).getD .skip
theorem nok : namesOk E cod = true := by kernel_rfl
theorem start (a1 : Bool) (a2 : List Int) (b : Int) : evalFn E Go.Proofs.Try.f10 cod [D.agg [S.sc (Value.bool a1), S.ints IntKind.u32 a2], D.s (S.sc (Value.int IntKind.i64 b))] = gif True (gif (IsK ((kf true).fst, (kf true).snd.fst, (kf true).snd.snd.fst, (kf true).snd.snd.snd.fst, (kf true).snd.snd.snd.snd.fst, (kf true).snd.snd.snd.snd.snd) ∧ Nrm a2 ∧ a2.length ≤ (1048576 : Nat) ∧ (-8388608 : Int) ≤ b ∧ b ≤ (8388608 : Int)) (bcase a1 (some [D.s (S.sc (Value.int IntKind.u64 (IntKind.u64.wrap (roundN ((kf true).fst, (kf true).snd.fst, (kf true).snd.snd.fst, (kf true).snd.snd.snd.fst, (kf true).snd.snd.snd.snd.fst, (kf true).snd.snd.snd.snd.snd) (val a2) b + (9223372036854775808 : Int)))))]) (some [D.s (S.sc (Value.int IntKind.u64 (roundN ((kf true).fst, (kf true).snd.fst, (kf true).snd.snd.fst, (kf true).snd.snd.snd.fst, (kf true).snd.snd.snd.snd.fst, (kf true).snd.snd.snd.snd.snd) (val a2) b)))]))) := (evalFn_J rfl nok _).trans (by kernel_rfl)
-- stuck: 0
end Round19
namespace Round19
noncomputable def sp (v : Bool × List Int) (e : Int) : Prop × List D := (Zok v ∧ v.2.length ≤ 1048576 ∧ (-8388608 ≤ e ∧ e ≤ 8388608), [.s (.sc (.int .u64 (roundN (kf true) (val v.2) e + (bif v.1 then 9223372036854775808 else 0))))])
theorem rb (n : Nat) (e : Int) : 0 ≤ roundN (kf true) n e ∧ roundN (kf true) n e ≤ 9218868437227405312 := by
  unfold roundN
  have hI : kI (kf true) = 9218868437227405312 := rfl
  rw [hI]
  split
  · omega
  · split
    · omega
    · unfold roundS
      rw [hI]
      split <;> omega
theorem spec (v : Bool × List Int) (e : Int) (h : (sp v e).1) : evalFn E Try.f10 cod [(pG (.pair sB (sI .u32))).put v, (pN .i64).put e] = some (sp v e).2 := by
  refine (start v.1 v.2 e).trans ?_
  obtain ⟨hv, hl, he⟩ := h
  have hr := rb (val v.2) e
  have hk : IsK (kf true) := .inl rfl
  refine (gP trivial).trans ((gP ⟨hk, hv.1, hl, he⟩).trans ?_)
  show _ = some [D.s (.sc (.int .u64 (roundN (kf true) (val v.2) e + (bif v.1 then 9223372036854775808 else 0))))]
  cases v.1 with
  | true =>
    rw [bT, wrap_u64]
    · rfl
    · show 0 ≤ roundN (kf true) (val v.2) e + 9223372036854775808
      omega
    · show roundN (kf true) (val v.2) e + 9223372036854775808 < 18446744073709551616
      omega
  | false => rw [bF, cond_false, Int.add_zero]

noncomputable def orc : Orc := orc2 (pG (.pair sB (sI .u32))) (pN .i64) sp
theorem fnok : FnOk Try.prog E 10 Try.f10 cod := fnOk ty_ok mixed (callsOk_of _ rfl (orcs_cons Double19.ok (orcs_cons Round10.ok orcs_nil)) (ext_ok)) Try.func10 rfl rfl rfl
theorem ok : OrcOk Try.prog base.glob 10 orc := fnok.ok2 rfl spec
end Round19
end Go.Proofs.Ytnhebddoclhnnaa.W

/- gnomon/gnomonref22.Part -/
namespace Go.Proofs.Ytnhebddoclhnnaa.W
open Go Go.Proofs.Ytnhebddoclhnnaa.AI Go.Proofs.Ytnhebddoclhnnaa.M
namespace Part22
noncomputable def E : Env := { ({ base with C := callsOf [(7, PiFloor16.orc), (8, Cut22.orc), (9, Sub.orc), (10, Round19.orc), (11, Mk.orc)] }) with nt := 26, own := [], keep := fun k => (tlook [] k).getD [], cut := tlook [] }
noncomputable def cod : Code := (Go.Proofs.Try.f5.body).getD .skip
theorem nok : namesOk E cod = true := by kernel_rfl
theorem start : evalFn E Go.Proofs.Try.f5 cod [] = gif ((0 : Int) ≤ (1099 : Int) ∧ (1099 : Int) ≤ (400000 : Int) ∧ (21336103401216864732494873877860887074878644244262192600537543536522469116407164677643384979800499391745914015430543377375495338955933559236967498859935331399822670913818119514166565069352943561495785284137872731605974607229729099129678380164551653562960096085052573272551291733766806739544544311320774934910808050880200775075360876 : Nat) = (21336103401216864732494873877860887074878644244262192600537543536522469116407164677643384979800499391745914015430543377375495338955933559236967498859935331399822670913818119514166565069352943561495785284137872731605974607229729099129678380164551653562960096085052573272551291733766806739544544311320774934910808050880200775075360876 : Nat))
  (gif (Nrm (dg (21336103401216864732494873877860887074878644244262192600537543536522469116407164677643384979800499391745914015430543377375495338955933559236967498859935331399822670913818119514166565069352943561495785284137872731605974607229729099129678380164551653562960096085052573272551291733766806739544544311320774934910808050880200775075360876 : Nat)) ∧ (dg (21336103401216864732494873877860887074878644244262192600537543536522469116407164677643384979800499391745914015430543377375495338955933559236967498859935331399822670913818119514166565069352943561495785284137872731605974607229729099129678380164551653562960096085052573272551291733766806739544544311320774934910808050880200775075360876 : Nat)).length ≤ (1048576 : Nat))
    (gif (Nrm (dg (21336103401216864732494873877860887074878644244262192600537543536522469116407164677643384979800499391745914015430543377375495338955933559236967498859935331399822670913818119514166565069352943561495785284137872731605974607229729099129678380164551653562960096085052573272551291733766806739544544311320774934910808050880200775075360876 : Nat)) ∧ Nrm (dg (Cut22.cutN (val (dg (21336103401216864732494873877860887074878644244262192600537543536522469116407164677643384979800499391745914015430543377375495338955933559236967498859935331399822670913818119514166565069352943561495785284137872731605974607229729099129678380164551653562960096085052573272551291733766806739544544311320774934910808050880200775075360876 : Nat))))) ∧ (dg (21336103401216864732494873877860887074878644244262192600537543536522469116407164677643384979800499391745914015430543377375495338955933559236967498859935331399822670913818119514166565069352943561495785284137872731605974607229729099129678380164551653562960096085052573272551291733766806739544544311320774934910808050880200775075360876 : Nat)).length ≤ (4398046511104 : Nat) ∧ (dg (Cut22.cutN (val (dg (21336103401216864732494873877860887074878644244262192600537543536522469116407164677643384979800499391745914015430543377375495338955933559236967498859935331399822670913818119514166565069352943561495785284137872731605974607229729099129678380164551653562960096085052573272551291733766806739544544311320774934910808050880200775075360876 : Nat))))).length ≤ (4398046511104 : Nat))
      (gif (Nrm (dg (val (dg (21336103401216864732494873877860887074878644244262192600537543536522469116407164677643384979800499391745914015430543377375495338955933559236967498859935331399822670913818119514166565069352943561495785284137872731605974607229729099129678380164551653562960096085052573272551291733766806739544544311320774934910808050880200775075360876 : Nat)) - val (dg (Cut22.cutN (val (dg (21336103401216864732494873877860887074878644244262192600537543536522469116407164677643384979800499391745914015430543377375495338955933559236967498859935331399822670913818119514166565069352943561495785284137872731605974607229729099129678380164551653562960096085052573272551291733766806739544544311320774934910808050880200775075360876 : Nat))))))) ∧ (dg (val (dg (21336103401216864732494873877860887074878644244262192600537543536522469116407164677643384979800499391745914015430543377375495338955933559236967498859935331399822670913818119514166565069352943561495785284137872731605974607229729099129678380164551653562960096085052573272551291733766806739544544311320774934910808050880200775075360876 : Nat)) - val (dg (Cut22.cutN (val (dg (21336103401216864732494873877860887074878644244262192600537543536522469116407164677643384979800499391745914015430543377375495338955933559236967498859935331399822670913818119514166565069352943561495785284137872731605974607229729099129678380164551653562960096085052573272551291733766806739544544311320774934910808050880200775075360876 : Nat))))))).length ≤ (1048576 : Nat))
        (gif (Nrm (dg (val (dg (21336103401216864732494873877860887074878644244262192600537543536522469116407164677643384979800499391745914015430543377375495338955933559236967498859935331399822670913818119514166565069352943561495785284137872731605974607229729099129678380164551653562960096085052573272551291733766806739544544311320774934910808050880200775075360876 : Nat)) - val (dg (Cut22.cutN (val (dg (21336103401216864732494873877860887074878644244262192600537543536522469116407164677643384979800499391745914015430543377375495338955933559236967498859935331399822670913818119514166565069352943561495785284137872731605974607229729099129678380164551653562960096085052573272551291733766806739544544311320774934910808050880200775075360876 : Nat))))))) ∧ Nrm (dg (Cut22.cutN (val (dg (val (dg (21336103401216864732494873877860887074878644244262192600537543536522469116407164677643384979800499391745914015430543377375495338955933559236967498859935331399822670913818119514166565069352943561495785284137872731605974607229729099129678380164551653562960096085052573272551291733766806739544544311320774934910808050880200775075360876 : Nat)) - val (dg (Cut22.cutN (val (dg (21336103401216864732494873877860887074878644244262192600537543536522469116407164677643384979800499391745914015430543377375495338955933559236967498859935331399822670913818119514166565069352943561495785284137872731605974607229729099129678380164551653562960096085052573272551291733766806739544544311320774934910808050880200775075360876 : Nat)))))))))) ∧ (dg (val (dg (21336103401216864732494873877860887074878644244262192600537543536522469116407164677643384979800499391745914015430543377375495338955933559236967498859935331399822670913818119514166565069352943561495785284137872731605974607229729099129678380164551653562960096085052573272551291733766806739544544311320774934910808050880200775075360876 : Nat)) - val (dg (Cut22.cutN (val (dg (21336103401216864732494873877860887074878644244262192600537543536522469116407164677643384979800499391745914015430543377375495338955933559236967498859935331399822670913818119514166565069352943561495785284137872731605974607229729099129678380164551653562960096085052573272551291733766806739544544311320774934910808050880200775075360876 : Nat))))))).length ≤ (4398046511104 : Nat) ∧ (dg (Cut22.cutN (val (dg (val (dg (21336103401216864732494873877860887074878644244262192600537543536522469116407164677643384979800499391745914015430543377375495338955933559236967498859935331399822670913818119514166565069352943561495785284137872731605974607229729099129678380164551653562960096085052573272551291733766806739544544311320774934910808050880200775075360876 : Nat)) - val (dg (Cut22.cutN (val (dg (21336103401216864732494873877860887074878644244262192600537543536522469116407164677643384979800499391745914015430543377375495338955933559236967498859935331399822670913818119514166565069352943561495785284137872731605974607229729099129678380164551653562960096085052573272551291733766806739544544311320774934910808050880200775075360876 : Nat)))))))))).length ≤ (4398046511104 : Nat))
          (gif (Dig (dg (Cut22.cutN (val (dg (21336103401216864732494873877860887074878644244262192600537543536522469116407164677643384979800499391745914015430543377375495338955933559236967498859935331399822670913818119514166565069352943561495785284137872731605974607229729099129678380164551653562960096085052573272551291733766806739544544311320774934910808050880200775075360876 : Nat))))) ∧ (dg (Cut22.cutN (val (dg (21336103401216864732494873877860887074878644244262192600537543536522469116407164677643384979800499391745914015430543377375495338955933559236967498859935331399822670913818119514166565069352943561495785284137872731605974607229729099129678380164551653562960096085052573272551291733766806739544544311320774934910808050880200775075360876 : Nat))))).length ≤ (4398046511104 : Nat))
            (gif (Zok (isNeg (zs false (val (dg (Cut22.cutN (val (dg (21336103401216864732494873877860887074878644244262192600537543536522469116407164677643384979800499391745914015430543377375495338955933559236967498859935331399822670913818119514166565069352943561495785284137872731605974607229729099129678380164551653562960096085052573272551291733766806739544544311320774934910808050880200775075360876 : Nat))))))), dg (zs false (val (dg (Cut22.cutN (val (dg (21336103401216864732494873877860887074878644244262192600537543536522469116407164677643384979800499391745914015430543377375495338955933559236967498859935331399822670913818119514166565069352943561495785284137872731605974607229729099129678380164551653562960096085052573272551291733766806739544544311320774934910808050880200775075360876 : Nat))))))).natAbs) ∧ (isNeg (zs false (val (dg (Cut22.cutN (val (dg (21336103401216864732494873877860887074878644244262192600537543536522469116407164677643384979800499391745914015430543377375495338955933559236967498859935331399822670913818119514166565069352943561495785284137872731605974607229729099129678380164551653562960096085052573272551291733766806739544544311320774934910808050880200775075360876 : Nat))))))), dg (zs false (val (dg (Cut22.cutN (val (dg (21336103401216864732494873877860887074878644244262192600537543536522469116407164677643384979800499391745914015430543377375495338955933559236967498859935331399822670913818119514166565069352943561495785284137872731605974607229729099129678380164551653562960096085052573272551291733766806739544544311320774934910808050880200775075360876 : Nat))))))).natAbs).snd.length ≤ (1048576 : Nat) ∧ (-8388608 : Int) ≤ (-1100 : Int) ∧ (-1100 : Int) ≤ (8388608 : Int))
              (gif (Dig (dg (Cut22.cutN (val (dg (val (dg (21336103401216864732494873877860887074878644244262192600537543536522469116407164677643384979800499391745914015430543377375495338955933559236967498859935331399822670913818119514166565069352943561495785284137872731605974607229729099129678380164551653562960096085052573272551291733766806739544544311320774934910808050880200775075360876 : Nat)) - val (dg (Cut22.cutN (val (dg (21336103401216864732494873877860887074878644244262192600537543536522469116407164677643384979800499391745914015430543377375495338955933559236967498859935331399822670913818119514166565069352943561495785284137872731605974607229729099129678380164551653562960096085052573272551291733766806739544544311320774934910808050880200775075360876 : Nat)))))))))) ∧ (dg (Cut22.cutN (val (dg (val (dg (21336103401216864732494873877860887074878644244262192600537543536522469116407164677643384979800499391745914015430543377375495338955933559236967498859935331399822670913818119514166565069352943561495785284137872731605974607229729099129678380164551653562960096085052573272551291733766806739544544311320774934910808050880200775075360876 : Nat)) - val (dg (Cut22.cutN (val (dg (21336103401216864732494873877860887074878644244262192600537543536522469116407164677643384979800499391745914015430543377375495338955933559236967498859935331399822670913818119514166565069352943561495785284137872731605974607229729099129678380164551653562960096085052573272551291733766806739544544311320774934910808050880200775075360876 : Nat)))))))))).length ≤ (4398046511104 : Nat))
                (gif (Zok (isNeg (zs false (val (dg (Cut22.cutN (val (dg (val (dg (21336103401216864732494873877860887074878644244262192600537543536522469116407164677643384979800499391745914015430543377375495338955933559236967498859935331399822670913818119514166565069352943561495785284137872731605974607229729099129678380164551653562960096085052573272551291733766806739544544311320774934910808050880200775075360876 : Nat)) - val (dg (Cut22.cutN (val (dg (21336103401216864732494873877860887074878644244262192600537543536522469116407164677643384979800499391745914015430543377375495338955933559236967498859935331399822670913818119514166565069352943561495785284137872731605974607229729099129678380164551653562960096085052573272551291733766806739544544311320774934910808050880200775075360876 : Nat)))))))))))), dg (zs false (val (dg (Cut22.cutN (val (dg (val (dg (21336103401216864732494873877860887074878644244262192600537543536522469116407164677643384979800499391745914015430543377375495338955933559236967498859935331399822670913818119514166565069352943561495785284137872731605974607229729099129678380164551653562960096085052573272551291733766806739544544311320774934910808050880200775075360876 : Nat)) - val (dg (Cut22.cutN (val (dg (21336103401216864732494873877860887074878644244262192600537543536522469116407164677643384979800499391745914015430543377375495338955933559236967498859935331399822670913818119514166565069352943561495785284137872731605974607229729099129678380164551653562960096085052573272551291733766806739544544311320774934910808050880200775075360876 : Nat)))))))))))).natAbs) ∧ (isNeg (zs false (val (dg (Cut22.cutN (val (dg (val (dg (21336103401216864732494873877860887074878644244262192600537543536522469116407164677643384979800499391745914015430543377375495338955933559236967498859935331399822670913818119514166565069352943561495785284137872731605974607229729099129678380164551653562960096085052573272551291733766806739544544311320774934910808050880200775075360876 : Nat)) - val (dg (Cut22.cutN (val (dg (21336103401216864732494873877860887074878644244262192600537543536522469116407164677643384979800499391745914015430543377375495338955933559236967498859935331399822670913818119514166565069352943561495785284137872731605974607229729099129678380164551653562960096085052573272551291733766806739544544311320774934910808050880200775075360876 : Nat)))))))))))), dg (zs false (val (dg (Cut22.cutN (val (dg (val (dg (21336103401216864732494873877860887074878644244262192600537543536522469116407164677643384979800499391745914015430543377375495338955933559236967498859935331399822670913818119514166565069352943561495785284137872731605974607229729099129678380164551653562960096085052573272551291733766806739544544311320774934910808050880200775075360876 : Nat)) - val (dg (Cut22.cutN (val (dg (21336103401216864732494873877860887074878644244262192600537543536522469116407164677643384979800499391745914015430543377375495338955933559236967498859935331399822670913818119514166565069352943561495785284137872731605974607229729099129678380164551653562960096085052573272551291733766806739544544311320774934910808050880200775075360876 : Nat)))))))))))).natAbs).snd.length ≤ (1048576 : Nat) ∧ (-8388608 : Int) ≤ (-1100 : Int) ∧ (-1100 : Int) ≤ (8388608 : Int))
                  (gif (Dig (dg (val (dg (val (dg (21336103401216864732494873877860887074878644244262192600537543536522469116407164677643384979800499391745914015430543377375495338955933559236967498859935331399822670913818119514166565069352943561495785284137872731605974607229729099129678380164551653562960096085052573272551291733766806739544544311320774934910808050880200775075360876 : Nat)) - val (dg (Cut22.cutN (val (dg (21336103401216864732494873877860887074878644244262192600537543536522469116407164677643384979800499391745914015430543377375495338955933559236967498859935331399822670913818119514166565069352943561495785284137872731605974607229729099129678380164551653562960096085052573272551291733766806739544544311320774934910808050880200775075360876 : Nat))))))) - val (dg (Cut22.cutN (val (dg (val (dg (21336103401216864732494873877860887074878644244262192600537543536522469116407164677643384979800499391745914015430543377375495338955933559236967498859935331399822670913818119514166565069352943561495785284137872731605974607229729099129678380164551653562960096085052573272551291733766806739544544311320774934910808050880200775075360876 : Nat)) - val (dg (Cut22.cutN (val (dg (21336103401216864732494873877860887074878644244262192600537543536522469116407164677643384979800499391745914015430543377375495338955933559236967498859935331399822670913818119514166565069352943561495785284137872731605974607229729099129678380164551653562960096085052573272551291733766806739544544311320774934910808050880200775075360876 : Nat)))))))))))) ∧ (dg (val (dg (val (dg (21336103401216864732494873877860887074878644244262192600537543536522469116407164677643384979800499391745914015430543377375495338955933559236967498859935331399822670913818119514166565069352943561495785284137872731605974607229729099129678380164551653562960096085052573272551291733766806739544544311320774934910808050880200775075360876 : Nat)) - val (dg (Cut22.cutN (val (dg (21336103401216864732494873877860887074878644244262192600537543536522469116407164677643384979800499391745914015430543377375495338955933559236967498859935331399822670913818119514166565069352943561495785284137872731605974607229729099129678380164551653562960096085052573272551291733766806739544544311320774934910808050880200775075360876 : Nat))))))) - val (dg (Cut22.cutN (val (dg (val (dg (21336103401216864732494873877860887074878644244262192600537543536522469116407164677643384979800499391745914015430543377375495338955933559236967498859935331399822670913818119514166565069352943561495785284137872731605974607229729099129678380164551653562960096085052573272551291733766806739544544311320774934910808050880200775075360876 : Nat)) - val (dg (Cut22.cutN (val (dg (21336103401216864732494873877860887074878644244262192600537543536522469116407164677643384979800499391745914015430543377375495338955933559236967498859935331399822670913818119514166565069352943561495785284137872731605974607229729099129678380164551653562960096085052573272551291733766806739544544311320774934910808050880200775075360876 : Nat)))))))))))).length ≤ (4398046511104 : Nat))
                    (gif
                      (Zok (isNeg (zs false (val (dg (val (dg (val (dg (21336103401216864732494873877860887074878644244262192600537543536522469116407164677643384979800499391745914015430543377375495338955933559236967498859935331399822670913818119514166565069352943561495785284137872731605974607229729099129678380164551653562960096085052573272551291733766806739544544311320774934910808050880200775075360876 : Nat)) - val (dg (Cut22.cutN (val (dg (21336103401216864732494873877860887074878644244262192600537543536522469116407164677643384979800499391745914015430543377375495338955933559236967498859935331399822670913818119514166565069352943561495785284137872731605974607229729099129678380164551653562960096085052573272551291733766806739544544311320774934910808050880200775075360876 : Nat))))))) - val (dg (Cut22.cutN (val (dg (val (dg (21336103401216864732494873877860887074878644244262192600537543536522469116407164677643384979800499391745914015430543377375495338955933559236967498859935331399822670913818119514166565069352943561495785284137872731605974607229729099129678380164551653562960096085052573272551291733766806739544544311320774934910808050880200775075360876 : Nat)) - val (dg (Cut22.cutN (val (dg (21336103401216864732494873877860887074878644244262192600537543536522469116407164677643384979800499391745914015430543377375495338955933559236967498859935331399822670913818119514166565069352943561495785284137872731605974607229729099129678380164551653562960096085052573272551291733766806739544544311320774934910808050880200775075360876 : Nat)))))))))))))), dg (zs false (val (dg (val (dg (val (dg (21336103401216864732494873877860887074878644244262192600537543536522469116407164677643384979800499391745914015430543377375495338955933559236967498859935331399822670913818119514166565069352943561495785284137872731605974607229729099129678380164551653562960096085052573272551291733766806739544544311320774934910808050880200775075360876 : Nat)) - val (dg (Cut22.cutN (val (dg (21336103401216864732494873877860887074878644244262192600537543536522469116407164677643384979800499391745914015430543377375495338955933559236967498859935331399822670913818119514166565069352943561495785284137872731605974607229729099129678380164551653562960096085052573272551291733766806739544544311320774934910808050880200775075360876 : Nat))))))) - val (dg (Cut22.cutN (val (dg (val (dg (21336103401216864732494873877860887074878644244262192600537543536522469116407164677643384979800499391745914015430543377375495338955933559236967498859935331399822670913818119514166565069352943561495785284137872731605974607229729099129678380164551653562960096085052573272551291733766806739544544311320774934910808050880200775075360876 : Nat)) - val (dg (Cut22.cutN (val (dg (21336103401216864732494873877860887074878644244262192600537543536522469116407164677643384979800499391745914015430543377375495338955933559236967498859935331399822670913818119514166565069352943561495785284137872731605974607229729099129678380164551653562960096085052573272551291733766806739544544311320774934910808050880200775075360876 : Nat)))))))))))))).natAbs) ∧
                        (isNeg (zs false (val (dg (val (dg (val (dg (21336103401216864732494873877860887074878644244262192600537543536522469116407164677643384979800499391745914015430543377375495338955933559236967498859935331399822670913818119514166565069352943561495785284137872731605974607229729099129678380164551653562960096085052573272551291733766806739544544311320774934910808050880200775075360876 : Nat)) - val (dg (Cut22.cutN (val (dg (21336103401216864732494873877860887074878644244262192600537543536522469116407164677643384979800499391745914015430543377375495338955933559236967498859935331399822670913818119514166565069352943561495785284137872731605974607229729099129678380164551653562960096085052573272551291733766806739544544311320774934910808050880200775075360876 : Nat))))))) - val (dg (Cut22.cutN (val (dg (val (dg (21336103401216864732494873877860887074878644244262192600537543536522469116407164677643384979800499391745914015430543377375495338955933559236967498859935331399822670913818119514166565069352943561495785284137872731605974607229729099129678380164551653562960096085052573272551291733766806739544544311320774934910808050880200775075360876 : Nat)) - val (dg (Cut22.cutN (val (dg (21336103401216864732494873877860887074878644244262192600537543536522469116407164677643384979800499391745914015430543377375495338955933559236967498859935331399822670913818119514166565069352943561495785284137872731605974607229729099129678380164551653562960096085052573272551291733766806739544544311320774934910808050880200775075360876 : Nat)))))))))))))), dg (zs false (val (dg (val (dg (val (dg (21336103401216864732494873877860887074878644244262192600537543536522469116407164677643384979800499391745914015430543377375495338955933559236967498859935331399822670913818119514166565069352943561495785284137872731605974607229729099129678380164551653562960096085052573272551291733766806739544544311320774934910808050880200775075360876 : Nat)) - val (dg (Cut22.cutN (val (dg (21336103401216864732494873877860887074878644244262192600537543536522469116407164677643384979800499391745914015430543377375495338955933559236967498859935331399822670913818119514166565069352943561495785284137872731605974607229729099129678380164551653562960096085052573272551291733766806739544544311320774934910808050880200775075360876 : Nat))))))) - val (dg (Cut22.cutN (val (dg (val (dg (21336103401216864732494873877860887074878644244262192600537543536522469116407164677643384979800499391745914015430543377375495338955933559236967498859935331399822670913818119514166565069352943561495785284137872731605974607229729099129678380164551653562960096085052573272551291733766806739544544311320774934910808050880200775075360876 : Nat)) - val (dg (Cut22.cutN (val (dg (21336103401216864732494873877860887074878644244262192600537543536522469116407164677643384979800499391745914015430543377375495338955933559236967498859935331399822670913818119514166565069352943561495785284137872731605974607229729099129678380164551653562960096085052573272551291733766806739544544311320774934910808050880200775075360876 : Nat)))))))))))))).natAbs).snd.length ≤ (1048576 : Nat) ∧ (-8388608 : Int) ≤ (-1100 : Int) ∧ (-1100 : Int) ≤ (8388608 : Int))
                      (some
                        [D.agg
                            [S.sc (Value.int IntKind.u64 (roundN (kf true) (val (isNeg (zs false (val (dg (Cut22.cutN (val (dg (21336103401216864732494873877860887074878644244262192600537543536522469116407164677643384979800499391745914015430543377375495338955933559236967498859935331399822670913818119514166565069352943561495785284137872731605974607229729099129678380164551653562960096085052573272551291733766806739544544311320774934910808050880200775075360876 : Nat))))))), dg (zs false (val (dg (Cut22.cutN (val (dg (21336103401216864732494873877860887074878644244262192600537543536522469116407164677643384979800499391745914015430543377375495338955933559236967498859935331399822670913818119514166565069352943561495785284137872731605974607229729099129678380164551653562960096085052573272551291733766806739544544311320774934910808050880200775075360876 : Nat))))))).natAbs).snd) (-1100 : Int) + bif (isNeg (zs false (val (dg (Cut22.cutN (val (dg (21336103401216864732494873877860887074878644244262192600537543536522469116407164677643384979800499391745914015430543377375495338955933559236967498859935331399822670913818119514166565069352943561495785284137872731605974607229729099129678380164551653562960096085052573272551291733766806739544544311320774934910808050880200775075360876 : Nat))))))), dg (zs false (val (dg (Cut22.cutN (val (dg (21336103401216864732494873877860887074878644244262192600537543536522469116407164677643384979800499391745914015430543377375495338955933559236967498859935331399822670913818119514166565069352943561495785284137872731605974607229729099129678380164551653562960096085052573272551291733766806739544544311320774934910808050880200775075360876 : Nat))))))).natAbs).fst then (9223372036854775808 : Int) else (0 : Int))),
                              S.sc (Value.int IntKind.u64 (roundN (kf true) (val (isNeg (zs false (val (dg (Cut22.cutN (val (dg (val (dg (21336103401216864732494873877860887074878644244262192600537543536522469116407164677643384979800499391745914015430543377375495338955933559236967498859935331399822670913818119514166565069352943561495785284137872731605974607229729099129678380164551653562960096085052573272551291733766806739544544311320774934910808050880200775075360876 : Nat)) - val (dg (Cut22.cutN (val (dg (21336103401216864732494873877860887074878644244262192600537543536522469116407164677643384979800499391745914015430543377375495338955933559236967498859935331399822670913818119514166565069352943561495785284137872731605974607229729099129678380164551653562960096085052573272551291733766806739544544311320774934910808050880200775075360876 : Nat)))))))))))), dg (zs false (val (dg (Cut22.cutN (val (dg (val (dg (21336103401216864732494873877860887074878644244262192600537543536522469116407164677643384979800499391745914015430543377375495338955933559236967498859935331399822670913818119514166565069352943561495785284137872731605974607229729099129678380164551653562960096085052573272551291733766806739544544311320774934910808050880200775075360876 : Nat)) - val (dg (Cut22.cutN (val (dg (21336103401216864732494873877860887074878644244262192600537543536522469116407164677643384979800499391745914015430543377375495338955933559236967498859935331399822670913818119514166565069352943561495785284137872731605974607229729099129678380164551653562960096085052573272551291733766806739544544311320774934910808050880200775075360876 : Nat)))))))))))).natAbs).snd) (-1100 : Int) + bif (isNeg (zs false (val (dg (Cut22.cutN (val (dg (val (dg (21336103401216864732494873877860887074878644244262192600537543536522469116407164677643384979800499391745914015430543377375495338955933559236967498859935331399822670913818119514166565069352943561495785284137872731605974607229729099129678380164551653562960096085052573272551291733766806739544544311320774934910808050880200775075360876 : Nat)) - val (dg (Cut22.cutN (val (dg (21336103401216864732494873877860887074878644244262192600537543536522469116407164677643384979800499391745914015430543377375495338955933559236967498859935331399822670913818119514166565069352943561495785284137872731605974607229729099129678380164551653562960096085052573272551291733766806739544544311320774934910808050880200775075360876 : Nat)))))))))))), dg (zs false (val (dg (Cut22.cutN (val (dg (val (dg (21336103401216864732494873877860887074878644244262192600537543536522469116407164677643384979800499391745914015430543377375495338955933559236967498859935331399822670913818119514166565069352943561495785284137872731605974607229729099129678380164551653562960096085052573272551291733766806739544544311320774934910808050880200775075360876 : Nat)) - val (dg (Cut22.cutN (val (dg (21336103401216864732494873877860887074878644244262192600537543536522469116407164677643384979800499391745914015430543377375495338955933559236967498859935331399822670913818119514166565069352943561495785284137872731605974607229729099129678380164551653562960096085052573272551291733766806739544544311320774934910808050880200775075360876 : Nat)))))))))))).natAbs).fst then (9223372036854775808 : Int) else (0 : Int))),
                              S.sc
                                (Value.int IntKind.u64
                                  (roundN (kf true) (val (isNeg (zs false (val (dg (val (dg (val (dg (21336103401216864732494873877860887074878644244262192600537543536522469116407164677643384979800499391745914015430543377375495338955933559236967498859935331399822670913818119514166565069352943561495785284137872731605974607229729099129678380164551653562960096085052573272551291733766806739544544311320774934910808050880200775075360876 : Nat)) - val (dg (Cut22.cutN (val (dg (21336103401216864732494873877860887074878644244262192600537543536522469116407164677643384979800499391745914015430543377375495338955933559236967498859935331399822670913818119514166565069352943561495785284137872731605974607229729099129678380164551653562960096085052573272551291733766806739544544311320774934910808050880200775075360876 : Nat))))))) - val (dg (Cut22.cutN (val (dg (val (dg (21336103401216864732494873877860887074878644244262192600537543536522469116407164677643384979800499391745914015430543377375495338955933559236967498859935331399822670913818119514166565069352943561495785284137872731605974607229729099129678380164551653562960096085052573272551291733766806739544544311320774934910808050880200775075360876 : Nat)) - val (dg (Cut22.cutN (val (dg (21336103401216864732494873877860887074878644244262192600537543536522469116407164677643384979800499391745914015430543377375495338955933559236967498859935331399822670913818119514166565069352943561495785284137872731605974607229729099129678380164551653562960096085052573272551291733766806739544544311320774934910808050880200775075360876 : Nat)))))))))))))), dg (zs false (val (dg (val (dg (val (dg (21336103401216864732494873877860887074878644244262192600537543536522469116407164677643384979800499391745914015430543377375495338955933559236967498859935331399822670913818119514166565069352943561495785284137872731605974607229729099129678380164551653562960096085052573272551291733766806739544544311320774934910808050880200775075360876 : Nat)) - val (dg (Cut22.cutN (val (dg (21336103401216864732494873877860887074878644244262192600537543536522469116407164677643384979800499391745914015430543377375495338955933559236967498859935331399822670913818119514166565069352943561495785284137872731605974607229729099129678380164551653562960096085052573272551291733766806739544544311320774934910808050880200775075360876 : Nat))))))) - val (dg (Cut22.cutN (val (dg (val (dg (21336103401216864732494873877860887074878644244262192600537543536522469116407164677643384979800499391745914015430543377375495338955933559236967498859935331399822670913818119514166565069352943561495785284137872731605974607229729099129678380164551653562960096085052573272551291733766806739544544311320774934910808050880200775075360876 : Nat)) - val (dg (Cut22.cutN (val (dg (21336103401216864732494873877860887074878644244262192600537543536522469116407164677643384979800499391745914015430543377375495338955933559236967498859935331399822670913818119514166565069352943561495785284137872731605974607229729099129678380164551653562960096085052573272551291733766806739544544311320774934910808050880200775075360876 : Nat)))))))))))))).natAbs).snd) (-1100 : Int) +
                                    bif (isNeg (zs false (val (dg (val (dg (val (dg (21336103401216864732494873877860887074878644244262192600537543536522469116407164677643384979800499391745914015430543377375495338955933559236967498859935331399822670913818119514166565069352943561495785284137872731605974607229729099129678380164551653562960096085052573272551291733766806739544544311320774934910808050880200775075360876 : Nat)) - val (dg (Cut22.cutN (val (dg (21336103401216864732494873877860887074878644244262192600537543536522469116407164677643384979800499391745914015430543377375495338955933559236967498859935331399822670913818119514166565069352943561495785284137872731605974607229729099129678380164551653562960096085052573272551291733766806739544544311320774934910808050880200775075360876 : Nat))))))) - val (dg (Cut22.cutN (val (dg (val (dg (21336103401216864732494873877860887074878644244262192600537543536522469116407164677643384979800499391745914015430543377375495338955933559236967498859935331399822670913818119514166565069352943561495785284137872731605974607229729099129678380164551653562960096085052573272551291733766806739544544311320774934910808050880200775075360876 : Nat)) - val (dg (Cut22.cutN (val (dg (21336103401216864732494873877860887074878644244262192600537543536522469116407164677643384979800499391745914015430543377375495338955933559236967498859935331399822670913818119514166565069352943561495785284137872731605974607229729099129678380164551653562960096085052573272551291733766806739544544311320774934910808050880200775075360876 : Nat)))))))))))))), dg (zs false (val (dg (val (dg (val (dg (21336103401216864732494873877860887074878644244262192600537543536522469116407164677643384979800499391745914015430543377375495338955933559236967498859935331399822670913818119514166565069352943561495785284137872731605974607229729099129678380164551653562960096085052573272551291733766806739544544311320774934910808050880200775075360876 : Nat)) - val (dg (Cut22.cutN (val (dg (21336103401216864732494873877860887074878644244262192600537543536522469116407164677643384979800499391745914015430543377375495338955933559236967498859935331399822670913818119514166565069352943561495785284137872731605974607229729099129678380164551653562960096085052573272551291733766806739544544311320774934910808050880200775075360876 : Nat))))))) - val (dg (Cut22.cutN (val (dg (val (dg (21336103401216864732494873877860887074878644244262192600537543536522469116407164677643384979800499391745914015430543377375495338955933559236967498859935331399822670913818119514166565069352943561495785284137872731605974607229729099129678380164551653562960096085052573272551291733766806739544544311320774934910808050880200775075360876 : Nat)) - val (dg (Cut22.cutN (val (dg (21336103401216864732494873877860887074878644244262192600537543536522469116407164677643384979800499391745914015430543377375495338955933559236967498859935331399822670913818119514166565069352943561495785284137872731605974607229729099129678380164551653562960096085052573272551291733766806739544544311320774934910808050880200775075360876 : Nat)))))))))))))).natAbs).fst then (9223372036854775808 : Int) else (0 : Int)))]]))))))))))) := (evalFn_J rfl nok _).trans (by kernel_rfl)
-- stuck: 0
end Part22
namespace Part22
def piU : Nat := 21336103401216864732494873877860887074878644244262192600537543536522469116407164677643384979800499391745914015430543377375495338955933559236967498859935331399822670913818119514166565069352943561495785284137872731605974607229729099129678380164551653562960096085052573272551291733766806739544544311320774934910808050880200775075360876
theorem zs0 (n : Nat) : zs false n = (n : Int) := rfl
theorem isNeg_nat (n : Nat) : isNeg (n : Int) = false := rfl
theorem abs_nat (n : Nat) : ((n : Int)).natAbs = n := rfl
theorem zok_nat {n : Nat} (h : (dg n).length ≤ 549755813888) : Zok (false, dg n) := zok_zD (z := (n : Int)) h
noncomputable def sp : Prop × List D := (True, [.agg [.sc (.int .u64 4609753056924401664), .sc (.int .u64 4454258360616747008), .sc (.int .u64 4297306550709743731)]])
theorem r1 : roundN (kf true) (Cut22.cutN piU) (-1100) = 4609753056924401664 := by kernel_rfl
theorem r2 : roundN (kf true) (Cut22.cutN (piU - Cut22.cutN piU)) (-1100) = 4454258360616747008 := by kernel_rfl
theorem r3 : roundN (kf true) (piU - Cut22.cutN piU - Cut22.cutN (piU - Cut22.cutN piU)) (-1100) = 4297306550709743731 := by kernel_rfl
theorem lU : piU < 2 ^ 1200 := Nat.le_of_ble_eq_true (by kernel_rfl)
theorem spec (_ : sp.1) : evalFn E Try.f5 cod [] = some sp.2 := by
  refine start.trans ?_
  simp only [val_dg, zs0, isNeg_nat, abs_nat, show ((21336103401216864732494873877860887074878644244262192600537543536522469116407164677643384979800499391745914015430543377375495338955933559236967498859935331399822670913818119514166565069352943561495785284137872731605974607229729099129678380164551653562960096085052573272551291733766806739544544311320774934910808050880200775075360876 : Nat)) = piU from rfl]
  have h1 := r1
  have h2 := r2
  have h3 := r3
  have l0 := len_dg_bits lU
  have l1 := len_dg_mono (Cut22.cutN_le piU)
  have l2 := len_dg_sub piU (Cut22.cutN piU)
  have l3 := len_dg_mono (Cut22.cutN_le (piU - Cut22.cutN piU))
  have l4 := len_dg_sub (piU - Cut22.cutN piU) (Cut22.cutN (piU - Cut22.cutN piU))
  generalize Cut22.cutN piU = c at *
  generalize Cut22.cutN (piU - c) = d at *
  generalize piU = u at *
  rw [gP ⟨by omega, by omega, trivial⟩, gP ⟨nrm_dg _, by omega⟩, gP ⟨nrm_dg _, nrm_dg _, by omega, by omega⟩, gP ⟨nrm_dg _, by omega⟩, gP ⟨nrm_dg _, nrm_dg _, by omega, by omega⟩, gP ⟨dig_dg _, by omega⟩, gP ⟨zok_nat (by omega), by omega, by omega, by omega⟩, gP ⟨dig_dg _, by omega⟩,
    gP ⟨zok_nat (by omega), by omega, by omega, by omega⟩, gP ⟨dig_dg _, by omega⟩, gP ⟨zok_nat (by omega), by omega, by omega, by omega⟩, h1, h2, h3]
  rfl

noncomputable def orc : Orc := orc0  sp
theorem fnok : FnOk Try.prog E 5 Try.f5 cod := fnOk ty_ok mixed (callsOk_of _ rfl (orcs_cons PiFloor16.ok (orcs_cons Cut22.ok (orcs_cons Sub.ok (orcs_cons Round19.ok (orcs_cons Mk.ok orcs_nil))))) (ext_ok)) Try.func5 rfl rfl rfl
theorem ok : OrcOk Try.prog base.glob 5 orc := fnok.ok0 spec
end Part22
end Go.Proofs.Ytnhebddoclhnnaa.W

/- gnomon/gnomonlaw22.FastreduceParts -/
namespace Go.Proofs.Ytnhebddoclhnnaa.W
open Go Go.Proofs.Ytnhebddoclhnnaa.AI Go.Proofs.Ytnhebddoclhnnaa.M
namespace LawParts
noncomputable def E : Env := { ({ base with C := callsOf [(4, Parts.orc), (5, Part22.orc)] }) with nt := 37, own := [], keep := fun k => (tlook [] k).getD [], cut := tlook [] }
noncomputable def cod : Code := (Go.Proofs.Try.f3.body).getD .skip
theorem nok : namesOk E cod = true := by kernel_rfl
theorem start : evalFn E Go.Proofs.Try.f3 cod [] = gif True (gif True (gif True (gif True (gif True (some [D.s (S.sc (Value.bool true))]))))) := (evalFn_J rfl nok _).trans (by kernel_rfl)
-- stuck: 0
end LawParts
namespace LawParts
noncomputable def sp : Prop × List D := (True, [.s (.sc (.bool true))])
theorem spec (_ : sp.1) : evalFn E Try.f3 cod [] = some sp.2 := by
  refine start.trans ?_
  rw [gP trivial]
  repeat rw [gP trivial]
  rfl

noncomputable def orc : Orc := orc0  sp
theorem fnok : FnOk Try.prog E 3 Try.f3 cod := fnOk ty_ok mixed (callsOk_of _ rfl (orcs_cons Parts.ok (orcs_cons Part22.ok orcs_nil)) (ext_ok)) Try.func3 rfl rfl rfl
theorem ok : OrcOk Try.prog base.glob 3 orc := fnok.ok0 spec
end LawParts
end Go.Proofs.Ytnhebddoclhnnaa.W

