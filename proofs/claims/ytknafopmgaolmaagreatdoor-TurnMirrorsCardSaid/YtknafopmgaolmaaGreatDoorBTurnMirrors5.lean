/- Texts of the claim on TurnMirrors, in their order: FAdd, FWord, FZOf, FBit, FZeros, FDivSmall, FShr, FTo, FZTo, FTold5, FDocOf5, FLPoint, FLAwake, FBWiden, FROf, FRInf, FRSigned, FMNearShr, FRSize, FRNear, FRNarrow, FLWidened, FLawMirrors, Row0. -/
import Derived.WalkKit
import Derived.ProofKit
import Derived.OpenShut
import Derived.Carry
import Derived.LaidMore
import Derived.MakeChecks
import Derived.Test.YtknafopmgaolmaaGreatDoorBTurnMirrors4
/- gnomon/gnomonref01.Add -/
namespace Go.Proofs.YtknafopmgaolmaaGreatDoor.W
open Go Go.Proofs.YtknafopmgaolmaaGreatDoor.AI Go.Proofs.YtknafopmgaolmaaGreatDoor.M
namespace Add
noncomputable def E : Env := { ({ base with C := callsOf [(125, Norm.orc)] }) with nt := 63, own := [62], keep := fun k => (tlook [(4, [0, 1, 5, 6, 7])] k).getD [], cut := tlook [(6, [0, 1, 5, 6, 7]), (8, [0, 1, 5, 6, 7]), (10, [0, 1, 5, 6, 7])] }
noncomputable def cod : Code := (Go.Proofs.Tryz.f132.body).getD .skip
theorem nok : namesOk E cod = true := by kernel_rfl
noncomputable def L4 (xs0 : List Int) (xs1 : List Int) (m2 : Nat) (xs3 : List Int) (x4 : Int) (x5 : Int) : Option (List D) := lpO E Go.Proofs.Tryz.f132 cod 4 [(A.v (V.one (L.s (S.ints IntKind.u32 xs0))), none), (A.v (V.one (L.s (S.ints IntKind.u32 xs1))), none), (A.v (V.one (L.buf (2 : Nat) m2)), some { e := (163 : Nat), cont := Cont.ints IntKind.u32 xs3 }), (A.v (V.one (L.s (S.sc (Value.int IntKind.u64 x4)))), none), (A.v (V.one (L.s (S.sc (Value.int IntKind.i64 x5)))), none)]
noncomputable def J6 (xs0 : List Int) (xs1 : List Int) (m2 : Nat) (xs3 : List Int) (x4 : Int) (x5 : Int) : Option (List D) := ctO E Go.Proofs.Tryz.f132 cod 6 [(A.v (V.one (L.s (S.ints IntKind.u32 xs0))), none), (A.v (V.one (L.s (S.ints IntKind.u32 xs1))), none), (A.v (V.one (L.buf (2 : Nat) m2)), some { e := (163 : Nat), cont := Cont.ints IntKind.u32 xs3 }), (A.v (V.one (L.s (S.sc (Value.int IntKind.u64 x4)))), none), (A.v (V.one (L.s (S.sc (Value.int IntKind.i64 x5)))), none)]
noncomputable def J8 (xs0 : List Int) (xs1 : List Int) (m2 : Nat) (xs3 : List Int) (x4 : Int) (x5 : Int) : Option (List D) := ctO E Go.Proofs.Tryz.f132 cod 8 [(A.v (V.one (L.s (S.ints IntKind.u32 xs0))), none), (A.v (V.one (L.s (S.ints IntKind.u32 xs1))), none), (A.v (V.one (L.buf (2 : Nat) m2)), some { e := (163 : Nat), cont := Cont.ints IntKind.u32 xs3 }), (A.v (V.one (L.s (S.sc (Value.int IntKind.u64 x4)))), none), (A.v (V.one (L.s (S.sc (Value.int IntKind.i64 x5)))), none)]
noncomputable def J10 (xs0 : List Int) (xs1 : List Int) (m2 : Nat) (xs3 : List Int) (x4 : Int) (x5 : Int) : Option (List D) := ctO E Go.Proofs.Tryz.f132 cod 10 [(A.v (V.one (L.s (S.ints IntKind.u32 xs0))), none), (A.v (V.one (L.s (S.ints IntKind.u32 xs1))), none), (A.v (V.one (L.buf (2 : Nat) m2)), some { e := (163 : Nat), cont := Cont.ints IntKind.u32 xs3 }), (A.v (V.one (L.s (S.sc (Value.int IntKind.u64 x4)))), none), (A.v (V.one (L.s (S.sc (Value.int IntKind.i64 x5)))), none)]
theorem start (a : List Int) (b : List Int) : evalFn E Go.Proofs.Tryz.f132 cod [D.s (S.ints IntKind.u32 a), D.s (S.ints IntKind.u32 b)] = if (0 : Int) ≤ (0 : Int) ∧ (0 : Int) ≤ IntKind.i64.wrap ((if (↑b.length : Int) > (↑a.length : Int) then (↑b.length : Int) else (↑a.length : Int)) + (1 : Int)) ∧ IntKind.i64.wrap ((if (↑b.length : Int) > (↑a.length : Int) then (↑b.length : Int) else (↑a.length : Int)) + (1 : Int)) ≤ (8796093022208 : Int) then Add.L4 a b (0 : Nat) (List.replicate (0 : Nat) (0 : Int)) (0 : Int) (0 : Int) else none := (evalFn_J rfl nok _).trans (by kernel_rfl)
theorem L4_eq (xs0 : List Int) (xs1 : List Int) (m2 : Nat) (xs3 : List Int) (x4 : Int) (x5 : Int) : L4 xs0 xs1 m2 xs3 x4 x5 = bcase (decide (x5 < (↑xs0.length : Int))) (Add.J6 xs0 xs1 m2 xs3 x4 x5) (bcase (decide (x5 < (↑xs1.length : Int))) (Add.J6 xs0 xs1 m2 xs3 x4 x5) (bcase (decide ((0 : Int) < x4)) (Add.J6 xs0 xs1 m2 xs3 x4 x5) (gif (Dig xs3 ∧ xs3.length ≤ (4398046511104 : Nat)) (some [D.own (163 : Nat) IntKind.u32 (dg (val xs3))])))) := (loopAt_J rfl nok 4 _).trans (by kernel_rfl)
theorem J6_eq (xs0 : List Int) (xs1 : List Int) (m2 : Nat) (xs3 : List Int) (x4 : Int) (x5 : Int) : J6 xs0 xs1 m2 xs3 x4 x5 = bcase (decide (x5 < (↑xs0.length : Int))) (if (0 : Int) ≤ x5 ∧ x5 < (↑xs0.length : Int) then Add.J8 xs0 xs1 m2 xs3 (IntKind.u64.wrap (x4 + IntKind.u64.wrap (xs0.getD x5.toNat (0 : Int)))) x5 else none) (Add.J8 xs0 xs1 m2 xs3 x4 x5) := (cutAt_J rfl nok 6 _).trans (by kernel_rfl)
theorem J8_eq (xs0 : List Int) (xs1 : List Int) (m2 : Nat) (xs3 : List Int) (x4 : Int) (x5 : Int) : J8 xs0 xs1 m2 xs3 x4 x5 = bcase (decide (x5 < (↑xs1.length : Int))) (if (0 : Int) ≤ x5 ∧ x5 < (↑xs1.length : Int) then Add.J10 xs0 xs1 m2 xs3 (IntKind.u64.wrap (x4 + IntKind.u64.wrap (xs1.getD x5.toNat (0 : Int)))) x5 else none) (Add.J10 xs0 xs1 m2 xs3 x4 x5) := (cutAt_J rfl nok 8 _).trans (by kernel_rfl)
theorem J10_eq (xs0 : List Int) (xs1 : List Int) (m2 : Nat) (xs3 : List Int) (x4 : Int) (x5 : Int) : J10 xs0 xs1 m2 xs3 x4 x5 = if (0 : Nat) < [IntKind.u32.wrap (bitsI BinOp.and IntKind.u64 x4 (4294967295 : Int))].length ∧ (↑(xs3.length + [IntKind.u32.wrap (bitsI BinOp.and IntKind.u64 x4 (4294967295 : Int))].length) : Int) ≤ (8796093022208 : Int) then Add.L4 xs0 xs1 (xs3.length + [IntKind.u32.wrap (bitsI BinOp.and IntKind.u64 x4 (4294967295 : Int))].length) (xs3 ++ [IntKind.u32.wrap (bitsI BinOp.and IntKind.u64 x4 (4294967295 : Int))]) (x4 / (4294967296 : Int)) (IntKind.i64.wrap (x5 + (1 : Int))) else none := (cutAt_J rfl nok 10 _).trans (by kernel_rfl)
-- stuck: 0
end Add
namespace Add
theorem step {a b xs : List Int} {c : Int} {i : Nat} (ha : Dig a) (hb : Dig b) (hxl : xs.length = i) (hi : i < 4398046511104) (h0 : 0 ≤ c) (h1 : c ≤ 1) (hc : i < a.length ∨ i < b.length ∨ 0 < c) :
    L4 a b i xs c i = L4 a b (i + 1) (xs ++ [(c + a.getD i 0 + b.getD i 0) % 4294967296]) ((c + a.getD i 0 + b.getD i 0) / 4294967296) ((i + 1 : Nat) : Int) := by
  have g1 := ha.get i
  have g2 := hb.get i
  have e' : ((i : Int)).toNat = i := Int.toNat_natCast i
  have hJ10 : ∀ s : Int, 0 ≤ s → s < 18446744073709551616 → J10 a b i xs s i = L4 a b (i + 1) (xs ++ [s % 4294967296]) (s / 4294967296) ((i + 1 : Nat) : Int) := by
    intro s hs hs'
    rw [J10_eq, and_mask32 hs hs', if_pos ⟨by simp, by simp; omega⟩, wrap_u32, Int.emod_emod_of_dvd _ (Int.dvd_refl _), wrap_i64 (by omega) (by omega), hxl]
    rfl
  have hJ8 : ∀ s : Int, 0 ≤ s → s < 8589934592 → J8 a b i xs s i = J10 a b i xs (s + b.getD i 0) i := by
    intro s hs hs'
    rw [J8_eq]
    by_cases h : i < b.length
    · rw [bD_pos (by omega), if_pos (by omega), e', wrap_u64 (n := b.getD i 0) (by omega) (by omega), wrap_u64 (by omega) (by omega)]
    · rw [bD_neg (by omega), getD_none (a := b) (by omega), Int.add_zero]
  have hJ6 : J6 a b i xs c i = L4 a b (i + 1) (xs ++ [(c + a.getD i 0 + b.getD i 0) % 4294967296]) ((c + a.getD i 0 + b.getD i 0) / 4294967296) ((i + 1 : Nat) : Int) := by
    rw [J6_eq]
    by_cases h : i < a.length
    · rw [bD_pos (by omega), if_pos (by omega), e', wrap_u64 (n := a.getD i 0) (by omega) (by omega), wrap_u64 (by omega) (by omega), hJ8 _ (by omega) (by omega), hJ10 _ (by omega) (by omega)]
    · rw [bD_neg (by omega), getD_none (a := a) (by omega), Int.add_zero, hJ8 _ (by omega) (by omega), hJ10 _ (by omega) (by omega)]
  rw [L4_eq]
  by_cases h : i < a.length
  · rw [bD_pos (by omega), hJ6]
  · rw [bD_neg (by omega)]
    by_cases h' : i < b.length
    · rw [bD_pos (by omega), hJ6]
    · rw [bD_neg (by omega), bD_pos (by omega), hJ6]

theorem L {a b : List Int} (ha : Dig a) (hb : Dig b) (hla : a.length ≤ 1099511627776) (hlb : b.length ≤ 1099511627776) : ∀ (d i : Nat) (xs : List Int) (c : Int), Dig xs → xs.length = i → 0 ≤ c → c ≤ 1 →
    i + d = max a.length b.length + 1 → (d = 0 → c = 0) → val xs + 4294967296 ^ i * c.toNat = val (a.take i) + val (b.take i) →
    L4 a b i xs c i = some [D.own tU32 .u32 (dg (val a + val b))] := by
  intro d
  induction d with
  | zero =>
    intro i xs c hx hxl h0 h1 hd hc hv
    have hc := hc rfl
    subst hc
    rw [L4_eq, bD_neg (by omega), bD_neg (by omega), bD_neg (by omega), gP ⟨hx, by omega⟩]
    rw [val_take_ge (by omega), val_take_ge (by omega)] at hv
    simp at hv
    rw [hv]
  | succ d ih =>
    intro i xs c hx hxl h0 h1 hd hc hv
    by_cases hgo : i < a.length ∨ i < b.length ∨ 0 < c
    · have g1 := ha.get i
      have g2 := hb.get i
      rw [step ha hb hxl (by omega) h0 h1 hgo]
      refine ih (i + 1) _ _ (dig_push hx (by omega)) (by simp [hxl]) (by omega) (by omega) (by omega) (fun hd0 => ?_) ?_
      · have : ¬ i < a.length := by omega
        have : ¬ i < b.length := by omega
        rw [getD_none (a := a) (by omega), getD_none (a := b) (by omega)]
        omega
      · rw [val_push, val_take_one, val_take_one, hxl, Nat.pow_succ, Nat.mul_assoc]
        generalize a.getD i 0 = x at *
        generalize b.getD i 0 = y at *
        generalize 4294967296 ^ i = B at *
        have e : 4294967296 * ((c + x + y) / 4294967296).toNat + ((c + x + y) % 4294967296).toNat = c.toNat + x.toNat + y.toNat := by omega
        have e2 : B * (4294967296 * ((c + x + y) / 4294967296).toNat) + B * ((c + x + y) % 4294967296).toNat = B * c.toNat + B * x.toNat + B * y.toNat := by
          rw [← Nat.mul_add, e, Nat.mul_add, Nat.mul_add]
        omega
    · have : c = 0 := by omega
      subst this
      rw [L4_eq, bD_neg (by omega), bD_neg (by omega), bD_neg (by omega), gP ⟨hx, by omega⟩]
      rw [val_take_ge (by omega), val_take_ge (by omega)] at hv
      simp at hv
      rw [hv]

noncomputable def sp (a b : List Int) : Prop × List D := (Dig a ∧ Dig b ∧ a.length ≤ 1099511627776 ∧ b.length ≤ 1099511627776, [.own tU32 .u32 (dg (val a + val b))])
theorem spec (a b : List Int) (h : (sp a b).1) : evalFn E Tryz.f132 cod [(pI .u32).put a, (pI .u32).put b] = some (sp a b).2 := by
  obtain ⟨ha, hb, h1, h2⟩ := h
  refine (start a b).trans ?_
  rw [if_pos]
  · exact L ha hb h1 h2 (max a.length b.length + 1) 0 [] 0 dig_nil rfl (by omega) (by omega) (by omega) (fun _ => rfl) (by simp [val])
  · refine ⟨by omega, ?_, ?_⟩ <;> rw [wrap_i64] <;> split <;> omega

noncomputable def orc : Orc := orc2 (pI .u32) (pI .u32) sp
theorem fnok : FnOk Tryz.prog E 132 Tryz.f132 cod := fnOk ty_ok mixed (callsOk_of _ rfl (orcs_cons Norm.ok orcs_nil) (ext_ok)) Tryz.func132 rfl rfl rfl
theorem ok : OrcOk Tryz.prog base.glob 132 orc := fnok.ok2 rfl spec
end Add
end Go.Proofs.YtknafopmgaolmaaGreatDoor.W

/- gnomon/gnomonref01.Word -/
namespace Go.Proofs.YtknafopmgaolmaaGreatDoor.W
open Go Go.Proofs.YtknafopmgaolmaaGreatDoor.AI Go.Proofs.YtknafopmgaolmaaGreatDoor.M
namespace Word
noncomputable def E : Env := { ({ base with C := callsOf [(125, Norm.orc)] }) with nt := 11, own := [10], keep := fun k => (tlook [] k).getD [], cut := tlook [] }
noncomputable def cod : Code := (Go.Proofs.Tryz.f133.body).getD .skip
theorem nok : namesOk E cod = true := by kernel_rfl
theorem start (a : Int) : evalFn E Go.Proofs.Tryz.f133 cod [D.s (S.sc (Value.int IntKind.u64 a))] = gif (Dig [IntKind.u32.wrap (bitsI BinOp.and IntKind.u64 a (4294967295 : Int)), IntKind.u32.wrap (a / (4294967296 : Int))] ∧ [IntKind.u32.wrap (bitsI BinOp.and IntKind.u64 a (4294967295 : Int)), IntKind.u32.wrap (a / (4294967296 : Int))].length ≤ (4398046511104 : Nat)) (some [D.own (163 : Nat) IntKind.u32 (dg (val [IntKind.u32.wrap (bitsI BinOp.and IntKind.u64 a (4294967295 : Int)), IntKind.u32.wrap (a / (4294967296 : Int))]))]) := (evalFn_J rfl nok _).trans (by kernel_rfl)
-- stuck: 0
end Word
namespace Word
noncomputable def sp (w : Int) : Prop × List D := (0 ≤ w ∧ w < 18446744073709551616, [.own tU32 .u32 (dg w.toNat)])
theorem spec (w : Int) (h : (sp w).1) : evalFn E Tryz.f133 cod [(pN .u64).put w] = some (sp w).2 := by
  obtain ⟨h, h'⟩ := h
  refine (start w).trans ?_
  rw [and_mask32 h h', wrap_u32, wrap_u32, gif_pos]
  · unfold sp
    congr 4
    simp only [val]
    omega
  · refine ⟨?_, by simp⟩
    rw [dig_cons, dig_cons]
    exact ⟨by omega, by omega, dig_nil⟩

noncomputable def orc : Orc := orc1 (pN .u64) sp
theorem fnok : FnOk Tryz.prog E 133 Tryz.f133 cod := fnOk ty_ok mixed (callsOk_of _ rfl (orcs_cons Norm.ok orcs_nil) (ext_ok)) Tryz.func133 rfl rfl rfl
theorem ok : OrcOk Tryz.prog base.glob 133 orc := fnok.ok1 rfl spec
end Word
end Go.Proofs.YtknafopmgaolmaaGreatDoor.W

/- gnomon/gnomonref04.Of -/
namespace Go.Proofs.YtknafopmgaolmaaGreatDoor.W
open Go Go.Proofs.YtknafopmgaolmaaGreatDoor.AI Go.Proofs.YtknafopmgaolmaaGreatDoor.M
namespace ZOf
noncomputable def E : Env := { ({ base with C := callsOf [(131, Mk.orc), (132, Add.orc), (133, Word.orc)] }) with nt := 17, own := [], keep := fun k => (tlook [] k).getD [], cut := tlook [] }
noncomputable def cod : Code := (Go.Proofs.Tryz.f67.body).getD .skip
theorem nok : namesOk E cod = true := by kernel_rfl
theorem start (a : Int) : evalFn E Go.Proofs.Tryz.f67 cod [D.s (S.sc (Value.int IntKind.i64 a))] = bcase (decide (a < (0 : Int))) (gif ((0 : Int) ≤ IntKind.u64.wrap (IntKind.i64.wrap ((0 : Int) - IntKind.i64.wrap (a + (1 : Int)))) ∧ IntKind.u64.wrap (IntKind.i64.wrap ((0 : Int) - IntKind.i64.wrap (a + (1 : Int)))) < (18446744073709551616 : Int)) (gif ((0 : Int) ≤ (1 : Int) ∧ (1 : Int) < (18446744073709551616 : Int)) (gif (Dig (dg (IntKind.u64.wrap (IntKind.i64.wrap ((0 : Int) - IntKind.i64.wrap (a + (1 : Int))))).toNat) ∧ Dig (dg (1 : Nat)) ∧ (dg (IntKind.u64.wrap (IntKind.i64.wrap ((0 : Int) - IntKind.i64.wrap (a + (1 : Int))))).toNat).length ≤ (1099511627776 : Nat) ∧ (dg (1 : Nat)).length ≤ (1099511627776 : Nat)) (gif (Dig (dg (val (dg (IntKind.u64.wrap (IntKind.i64.wrap ((0 : Int) - IntKind.i64.wrap (a + (1 : Int))))).toNat) + val (dg (1 : Nat)))) ∧ (dg (val (dg (IntKind.u64.wrap (IntKind.i64.wrap ((0 : Int) - IntKind.i64.wrap (a + (1 : Int))))).toNat) + val (dg (1 : Nat)))).length ≤ (4398046511104 : Nat)) (some [D.agg [S.sc (Value.bool (isNeg (zs true (val (dg (val (dg (IntKind.u64.wrap (IntKind.i64.wrap ((0 : Int) - IntKind.i64.wrap (a + (1 : Int))))).toNat) + val (dg (1 : Nat)))))))), S.ints IntKind.u32 (dg (zs true (val (dg (val (dg (IntKind.u64.wrap (IntKind.i64.wrap ((0 : Int) - IntKind.i64.wrap (a + (1 : Int))))).toNat) + val (dg (1 : Nat)))))).natAbs)]]))))) (gif ((0 : Int) ≤ IntKind.u64.wrap a ∧ IntKind.u64.wrap a < (18446744073709551616 : Int)) (gif (Dig (dg (IntKind.u64.wrap a).toNat) ∧ (dg (IntKind.u64.wrap a).toNat).length ≤ (4398046511104 : Nat)) (some [D.agg [S.sc (Value.bool (isNeg (zs false (val (dg (IntKind.u64.wrap a).toNat))))), S.ints IntKind.u32 (dg (zs false (val (dg (IntKind.u64.wrap a).toNat))).natAbs)]]))) := (evalFn_J rfl nok _).trans (by kernel_rfl)
-- stuck: 0
end ZOf
namespace ZOf
noncomputable def sp (a : Int) : Prop × List D := (-9223372036854775808 ≤ a ∧ a < 9223372036854775808, [zD a])
theorem len64 {n : Nat} (h : n < 18446744073709551616) : (dg n).length ≤ 2 := len_dg_le (by simpa using h)
theorem spec (a : Int) (h : (sp a).1) : evalFn E Tryz.f67 cod [(pN .i64).put a] = some (sp a).2 := by
  obtain ⟨h1, h2⟩ := h
  refine (start a).trans ?_
  show _ = some [zD a]
  simp only [val_dg]
  by_cases hn : a < 0
  · have e : IntKind.u64.wrap (IntKind.i64.wrap (0 - IntKind.i64.wrap (a + 1))) = -(a + 1) := by
      rw [wrap_i64 (n := a + 1) (by omega) (by omega), wrap_i64 (by omega) (by omega), wrap_u64 (by omega) (by omega)]; omega
    have l1 := len64 (n := (-(a + 1)).toNat) (by omega)
    have l2 := len64 (n := (-(a + 1)).toNat + 1) (by omega)
    have l3 := len64 (n := 1) (by omega)
    rw [bD_pos hn, e, gP ⟨by omega, by omega⟩, gP ⟨by omega, by omega⟩, gP ⟨dig_dg _, dig_dg _, by omega, by omega⟩, gP ⟨dig_dg _, by omega⟩]
    have ez : zs true ((-(a + 1)).toNat + 1) = a := by unfold zs; simp only [cond_true]; omega
    rw [ez]
    rfl
  · have l1 := len64 (n := a.toNat) (by omega)
    rw [bD_neg hn, wrap_u64 (by omega) (by omega), gP ⟨by omega, by omega⟩, gP ⟨dig_dg _, by omega⟩]
    have ez : zs false a.toNat = a := by unfold zs; simp only [cond_false]; omega
    rw [ez]
    rfl

noncomputable def orc : Orc := orc1 (pN .i64) sp
theorem fnok : FnOk Tryz.prog E 67 Tryz.f67 cod := fnOk ty_ok mixed (callsOk_of _ rfl (orcs_cons Mk.ok (orcs_cons Add.ok (orcs_cons Word.ok orcs_nil))) (ext_ok)) Tryz.func67 rfl rfl rfl
theorem ok : OrcOk Tryz.prog base.glob 67 orc := fnok.ok1 rfl spec
end ZOf
end Go.Proofs.YtknafopmgaolmaaGreatDoor.W

/- gnomon/gnomonref01.Bit -/
namespace Go.Proofs.YtknafopmgaolmaaGreatDoor.W
open Go Go.Proofs.YtknafopmgaolmaaGreatDoor.AI Go.Proofs.YtknafopmgaolmaaGreatDoor.M
namespace Bit
noncomputable def E : Env := { (base) with nt := 24, own := [], keep := fun k => (tlook [] k).getD [], cut := tlook [(3, [0, 1])] }
noncomputable def cod : Code := (Go.Proofs.Tryz.f265.body).getD .skip
theorem nok : namesOk E cod = true := by kernel_rfl
noncomputable def J3 (xs0 : List Int) (x1 : Int) : Option (List D) := ctO E Go.Proofs.Tryz.f265 cod 3 [(A.v (V.one (L.s (S.ints IntKind.u32 xs0))), none), (A.v (V.one (L.s (S.sc (Value.int IntKind.i64 x1)))), none)]
theorem start (a : List Int) (b : Int) : evalFn E Go.Proofs.Tryz.f265 cod [D.s (S.ints IntKind.u32 a), D.s (S.sc (Value.int IntKind.i64 b))] = bcase (decide (b < (0 : Int))) (some [D.s (S.sc (Value.int IntKind.i64 (0 : Int)))]) (bcase (decide ((↑a.length : Int) ≤ IntKind.i64.wrap (b.tdiv (32 : Int)))) (some [D.s (S.sc (Value.int IntKind.i64 (0 : Int)))]) (Bit.J3 a b)) := (evalFn_J rfl nok _).trans (by kernel_rfl)
theorem J3_eq (xs0 : List Int) (x1 : Int) : J3 xs0 x1 = if (0 : Int) ≤ IntKind.i64.wrap (x1.tdiv (32 : Int)) ∧ IntKind.i64.wrap (x1.tdiv (32 : Int)) < (↑xs0.length : Int) then if x1.tmod (32 : Int) < (0 : Int) then none else some [D.s (S.sc (Value.int IntKind.i64 (IntKind.i64.wrap (bitsI BinOp.and IntKind.u32 (xs0.getD (IntKind.i64.wrap (x1.tdiv (32 : Int))).toNat (0 : Int) / (↑((2 : Nat) ^ min (x1.tmod (32 : Int)).toNat (32 : Nat)) : Int)) (1 : Int)))))] else none := (cutAt_J rfl nok 3 _).trans (by kernel_rfl)
-- stuck: 0
end Bit
namespace Bit
theorem and_one32 {x : Int} (h : 0 ≤ x) (h' : x < 4294967296) : bitsI .and .u32 x 1 = x % 2 := by
  obtain ⟨n, rfl⟩ := Int.eq_ofNat_of_zero_le h
  rw [bitsI_eq]
  unfold bitsI0
  simp only
  have e : (BitVec.ofInt IntKind.u32.bits (n : Int) &&& BitVec.ofInt IntKind.u32.bits 1).toNat = n % 2 := by
    show (BitVec.ofInt 32 (n : Int) &&& BitVec.ofInt 32 1).toNat = _
    rw [BitVec.toNat_and]
    have e1 : (BitVec.ofInt 32 (n : Int)).toNat = n := by simp; omega
    have e2 : (BitVec.ofInt 32 1).toNat = 1 := by decide
    rw [e1, e2, Nat.and_one_is_mod]
  rw [e, wrap_u32]
  omega
noncomputable def sp (a : List Int) (i : Int) : Prop × List D := (Dig a ∧ a.length ≤ 1099511627776 ∧ -9223372036854775808 ≤ i ∧ i < 9223372036854775808, [.s (.sc (.int .i64 (if i < 0 then 0 else ((val a / 2 ^ i.toNat % 2 : Nat) : Int))))])
theorem spec (a : List Int) (i : Int) (h : (sp a i).1) : evalFn E Tryz.f265 cod [(pI .u32).put a, (pN .i64).put i] = some (sp a i).2 := by
  obtain ⟨ha, hl, h1, h2⟩ := h
  refine (start a i).trans ?_
  show _ = some [D.s (.sc (.int .i64 (if i < 0 then 0 else ((val a / 2 ^ i.toNat % 2 : Nat) : Int))))]
  by_cases hn : i < 0
  · rw [bD_pos hn, if_pos hn]
  · have t1 : i.tdiv 32 = i / 32 := Int.tdiv_eq_ediv_of_nonneg (by omega)
    have t2 : i.tmod 32 = i % 32 := Int.tmod_eq_emod_of_nonneg (by omega)
    have e1 : (i / 32).toNat = i.toNat / 32 := by omega
    have e2 : (i % 32).toNat = i.toNat % 32 := by omega
    rw [bD_neg hn, if_neg hn, t1, wrap_i64 (n := i / 32) (by omega) (by omega), pow_split i.toNat, ← Nat.div_div_eq_div_mul]
    by_cases hz : (a.length : Int) ≤ i / 32
    · have hv : val a / 4294967296 ^ (i.toNat / 32) = 0 := by
        apply Nat.div_eq_of_lt
        exact Nat.lt_of_lt_of_le (val_lt ha) (Nat.pow_le_pow_right (by omega) (by omega))
      rw [bD_pos hz, hv, Nat.zero_div]
      rfl
    · have g := ha.get (i.toNat / 32)
      rw [bD_neg hz, J3_eq, t1, t2, wrap_i64 (n := i / 32) (by omega) (by omega), if_pos (by omega), if_neg (by omega), e1, e2, ← val_drop_div ha, val_drop_one]
      have em : min (i.toNat % 32) 32 = i.toNat % 32 := by omega
      have hlt : i.toNat % 32 < 32 := Nat.mod_lt _ (by omega)
      rw [em]
      generalize i.toNat % 32 = k at *
      generalize a.getD (i.toNat / 32) 0 = x at *
      generalize val (a.drop (i.toNat / 32 + 1)) = r at *
      have hp : 0 < 2 ^ k := Nat.pow_pos (by omega)
      have e3 : (x.toNat + 4294967296 * r) / 2 ^ k % 2 = x.toNat / 2 ^ k % 2 := by
        have : 4294967296 * r = 2 ^ k * (2 * (2 ^ (31 - k) * r)) := by
          rw [show (4294967296 : Nat) = 2 ^ 32 from rfl, show 32 = k + (1 + (31 - k)) from by omega, Nat.pow_add, Nat.pow_add, Nat.mul_assoc, Nat.mul_assoc]
        rw [this, Nat.add_mul_div_left _ _ hp]
        omega
      rw [e3]
      have ex : x / ((2 ^ k : Nat) : Int) = ((x.toNat / 2 ^ k : Nat) : Int) := by
        obtain ⟨n, rfl⟩ := Int.eq_ofNat_of_zero_le g.1
        rw [← Int.natCast_ediv]; rfl
      have hle : x.toNat / 2 ^ k ≤ x.toNat := Nat.div_le_self _ _
      rw [ex]
      clear ex e3
      generalize x.toNat / 2 ^ k = q at *
      rw [and_one32 (by omega) (by omega), wrap_i64 (by omega) (by omega)]
      rfl

noncomputable def orc : Orc := orc2 (pI .u32) (pN .i64) sp
theorem fnok : FnOk Tryz.prog E 265 Tryz.f265 cod := fnOk ty_ok mixed (callsOk_of _ rfl orcs_nil (ext_ok)) Tryz.func265 rfl rfl rfl
theorem ok : OrcOk Tryz.prog base.glob 265 orc := fnok.ok2 rfl spec
end Bit
end Go.Proofs.YtknafopmgaolmaaGreatDoor.W

/- gnomon/gnomonref01.Zeros -/
namespace Go.Proofs.YtknafopmgaolmaaGreatDoor.W
open Go Go.Proofs.YtknafopmgaolmaaGreatDoor.AI Go.Proofs.YtknafopmgaolmaaGreatDoor.M
namespace Zeros
noncomputable def E : Env := { ({ base with C := callsOf [(265, Bit.orc)] }) with nt := 29, own := [], keep := fun k => (tlook [(6, [0, 3]), (4, [0, 3])] k).getD [], cut := tlook [(6, [0, 3])] }
noncomputable def cod : Code := (Go.Proofs.Tryz.f235.body).getD .skip
theorem nok : namesOk E cod = true := by kernel_rfl
noncomputable def L4 (xs0 : List Int) (x1 : Int) : Option (List D) := lpO E Go.Proofs.Tryz.f235 cod 4 [(A.v (V.one (L.s (S.ints IntKind.u32 xs0))), none), (A.v (V.one (L.s (S.sc (Value.int IntKind.i64 x1)))), none)]
noncomputable def J6 (xs0 : List Int) (x1 : Int) : Option (List D) := ctO E Go.Proofs.Tryz.f235 cod 6 [(A.v (V.one (L.s (S.ints IntKind.u32 xs0))), none), (A.v (V.one (L.s (S.sc (Value.int IntKind.i64 x1)))), none)]
noncomputable def L6 (xs0 : List Int) (x1 : Int) : Option (List D) := lpO E Go.Proofs.Tryz.f235 cod 6 [(A.v (V.one (L.s (S.ints IntKind.u32 xs0))), none), (A.v (V.one (L.s (S.sc (Value.int IntKind.i64 x1)))), none)]
theorem start (a : List Int) : evalFn E Go.Proofs.Tryz.f235 cod [D.s (S.ints IntKind.u32 a)] = bcase ((↑a.length : Int) == (0 : Int)) (some [D.s (S.sc (Value.int IntKind.i64 (0 : Int)))]) (Zeros.L4 a (0 : Int)) := (evalFn_J rfl nok _).trans (by kernel_rfl)
theorem L4_eq (xs0 : List Int) (x1 : Int) : L4 xs0 x1 = bcase (decide (IntKind.i64.wrap (x1.tdiv (32 : Int)) < (↑xs0.length : Int))) (if (0 : Int) ≤ IntKind.i64.wrap (x1.tdiv (32 : Int)) ∧ IntKind.i64.wrap (x1.tdiv (32 : Int)) < (↑xs0.length : Int) then bcase (xs0.getD (IntKind.i64.wrap (x1.tdiv (32 : Int))).toNat (0 : Int) == (0 : Int)) (Zeros.L4 xs0 (IntKind.i64.wrap (x1 + (32 : Int)))) (Zeros.J6 xs0 x1) else none) (Zeros.J6 xs0 x1) := (loopAt_J rfl nok 4 _).trans (by kernel_rfl)
theorem J6_eq (xs0 : List Int) (x1 : Int) : J6 xs0 x1 = Zeros.L6 xs0 x1 := (cutAt_J rfl nok 6 _).trans (by kernel_rfl)
theorem L6_eq (xs0 : List Int) (x1 : Int) : L6 xs0 x1 = gif (Dig xs0 ∧ xs0.length ≤ (1099511627776 : Nat) ∧ (-9223372036854775808 : Int) ≤ x1 ∧ x1 < (9223372036854775808 : Int)) (bcase ((if x1 < (0 : Int) then (0 : Int) else (↑(val xs0 / (2 : Nat) ^ x1.toNat % (2 : Nat)) : Int)) == (0 : Int)) (Zeros.L6 xs0 (IntKind.i64.wrap (x1 + (1 : Int)))) (some [D.s (S.sc (Value.int IntKind.i64 x1))])) := (loopAt_J rfl nok 6 _).trans (by kernel_rfl)
-- stuck: 0
end Zeros
namespace Zeros
theorem tz_ge {v k : Nat} (hv : v ≠ 0) (h : v % 2 ^ k = 0) : k ≤ tz v := by
  have hd := Nat.div_add_mod v (2 ^ k)
  rw [h, Nat.add_zero] at hd
  have hq : v / 2 ^ k ≠ 0 := fun hq => by rw [hq, Nat.mul_zero] at hd; omega
  have := tz_mul hq k
  rw [hd] at this
  omega
theorem lp {a : List Int} (ha : Dig a) (hl : a.length ≤ 1099511627776) (hv : val a ≠ 0) (ht : tz (val a) < 70368744177664) : ∀ (d n : Nat), n + d = tz (val a) → L6 a (n : Int) = some [D.s (.sc (.int .i64 ((tz (val a) : Nat) : Int)))] := by
  have hs := tz_spec _ hv
  intro d
  induction d with
  | zero =>
    intro n hd
    have : n = tz (val a) := by omega
    subst this
    rw [L6_eq, gP ⟨ha, hl, by omega, by omega⟩, if_neg (by omega), Int.toNat_natCast, bE_neg (by omega)]
  | succ d ih =>
    intro n hd
    have h0 : val a / 2 ^ n % 2 = 0 := by
      have hdm := Nat.div_add_mod (val a) (2 ^ tz (val a))
      rw [hs.1, Nat.add_zero] at hdm
      have : val a = 2 ^ n * (2 * (2 ^ d * (val a / 2 ^ tz (val a)))) := by
        have e : 2 ^ tz (val a) = 2 ^ n * (2 * 2 ^ d) := by rw [← hd, Nat.pow_add, Nat.pow_succ, Nat.mul_comm (2 ^ d)]
        generalize val a / 2 ^ tz (val a) = q at *
        rw [← Nat.mul_assoc 2, ← Nat.mul_assoc (2 ^ n), ← e]
        exact hdm.symm
      rw [this, Nat.mul_div_cancel_left _ (Nat.pow_pos (by decide))]
      omega
    rw [L6_eq, gP ⟨ha, hl, by omega, by omega⟩, if_neg (by omega), Int.toNat_natCast, h0, bE_pos (show ((0 : Nat) : Int) = 0 from rfl), wrap_i64 (by omega) (by omega)]
    exact ih (n + 1) (by omega)
theorem skip {a : List Int} (ha : Dig a) (hl : a.length ≤ 1099511627776) (hv : val a ≠ 0) (ht : tz (val a) < 70368744177664) : ∀ (d i : Nat), i + d = a.length → val (a.take i) = 0 → L4 a ((32 * i : Nat) : Int) = some [D.s (.sc (.int .i64 ((tz (val a) : Nat) : Int)))] := by
  have key : ∀ i, val (a.take i) = 0 → 32 * i ≤ tz (val a) ∧ i < a.length := by
    intro i h0
    have hlt : i < a.length := by
      rcases Nat.lt_or_ge i a.length with h | h
      · exact h
      · rw [List.take_of_length_le h] at h0; exact (hv h0).elim
    refine ⟨tz_ge hv ?_, hlt⟩
    have h1 := val_take_drop a (n := i) (by omega)
    rw [h0, Nat.zero_add] at h1
    rw [← pow32, h1, Nat.mul_mod_right]
  intro d
  induction d with
  | zero => intro i hd h0; have := key i h0; omega
  | succ d ih =>
    intro i hd h0
    have hk := key i h0
    have t1 : (((32 * i : Nat) : Int)).tdiv 32 = (i : Int) := by rw [Int.tdiv_eq_ediv_of_nonneg (by omega)]; omega
    have g := ha.get i
    rw [L4_eq, t1, wrap_i64 (n := (i : Int)) (by omega) (by omega), bD_pos (by omega), if_pos (by omega), Int.toNat_natCast]
    by_cases hc : a.getD i 0 = 0
    · rw [bE_pos hc, wrap_i64 (by omega) (by omega)]
      have := ih (i + 1) (by omega) (by rw [val_take_one, h0, hc]; simp)
      rw [show ((32 * i : Nat) : Int) + 32 = ((32 * (i + 1) : Nat) : Int) by omega]
      exact this
    · rw [bE_neg hc, J6_eq]
      exact lp ha hl hv ht (tz (val a) - 32 * i) (32 * i) (by omega)
noncomputable def sp (a : List Int) : Prop × List D := (Nrm a ∧ a.length ≤ 1099511627776, [.s (.sc (.int .i64 (if val a = 0 then 0 else ((tz (val a) : Nat) : Int))))])
theorem spec (a : List Int) (h : (sp a).1) : evalFn E Tryz.f235 cod [(pI .u32).put a] = some (sp a).2 := by
  obtain ⟨ha, hl⟩ := h
  refine (start a).trans ?_
  show _ = some [D.s (.sc (.int .i64 (if val a = 0 then 0 else ((tz (val a) : Nat) : Int))))]
  by_cases h0 : a.length = 0
  · rw [bE_pos (by omega), if_pos ((len_zero ha).1 h0)]
  · have hv : val a ≠ 0 := fun h => h0 ((len_zero ha).2 h)
    have ht : tz (val a) < 70368744177664 := by
      have h1 := tz_lt hv
      have h2 := val_lt ha.dig
      rw [pow32] at h2
      have := (Nat.pow_lt_pow_iff_right (by decide : 1 < 2)).1 (Nat.lt_of_le_of_lt h1 h2)
      omega
    rw [bE_neg (by omega), if_neg hv]
    exact skip ha.dig hl hv ht a.length 0 (by omega) (by simp [val])

noncomputable def orc : Orc := orc1 (pI .u32) sp
theorem fnok : FnOk Tryz.prog E 235 Tryz.f235 cod := fnOk ty_ok mixed (callsOk_of _ rfl (orcs_cons Bit.ok orcs_nil) (ext_ok)) Tryz.func235 rfl rfl rfl
theorem ok : OrcOk Tryz.prog base.glob 235 orc := fnok.ok1 rfl spec
end Zeros
end Go.Proofs.YtknafopmgaolmaaGreatDoor.W

/- gnomon/gnomonref01.DivSmall -/
namespace Go.Proofs.YtknafopmgaolmaaGreatDoor.W
open Go Go.Proofs.YtknafopmgaolmaaGreatDoor.AI Go.Proofs.YtknafopmgaolmaaGreatDoor.M
namespace DivSmall
noncomputable def E : Env := { ({ base with C := callsOf [(125, Norm.orc), (133, Word.orc)] }) with nt := 46, own := [11, 43], keep := fun k => (tlook [(6, [0, 1, 6, 7, 8])] k).getD [], cut := tlook [] }
noncomputable def cod : Code := (Go.Proofs.Tryz.f266.body).getD .skip
theorem nok : namesOk E cod = true := by kernel_rfl
noncomputable def L6 (xs0 : List Int) (x1 : Int) (m2 : Nat) (xs3 : List Int) (x4 : Int) (x5 : Int) : Option (List D) := lpO E Go.Proofs.Tryz.f266 cod 6 [(A.v (V.one (L.s (S.ints IntKind.u32 xs0))), none), (A.v (V.one (L.s (S.sc (Value.int IntKind.u32 x1)))), none), (A.v (V.one (L.buf (2 : Nat) m2)), some { e := (163 : Nat), cont := Cont.ints IntKind.u32 xs3 }), (A.v (V.one (L.s (S.sc (Value.int IntKind.u64 x4)))), none), (A.v (V.one (L.s (S.sc (Value.int IntKind.i64 x5)))), none)]
theorem start (a : List Int) (b : Int) : evalFn E Go.Proofs.Tryz.f266 cod [D.s (S.ints IntKind.u32 a), D.s (S.sc (Value.int IntKind.u32 b))] = bcase (b == (0 : Int)) (gif ((0 : Int) ≤ (0 : Int) ∧ (0 : Int) < (18446744073709551616 : Int)) (some [D.own (163 : Nat) IntKind.u32 (dg (0 : Nat)), D.s (S.sc (Value.int IntKind.u32 (0 : Int)))])) (if (0 : Int) ≤ (↑a.length : Int) ∧ (↑a.length : Int) ≤ (↑a.length : Int) ∧ (↑a.length : Int) ≤ (8796093022208 : Int) then DivSmall.L6 a b (↑a.length : Int).toNat (List.replicate (↑a.length : Int).toNat (0 : Int)) (0 : Int) (IntKind.i64.wrap ((↑a.length : Int) - (1 : Int))) else none) := (evalFn_J rfl nok _).trans (by kernel_rfl)
theorem L6_eq (xs0 : List Int) (x1 : Int) (m2 : Nat) (xs3 : List Int) (x4 : Int) (x5 : Int) : L6 xs0 x1 m2 xs3 x4 x5 = bcase (decide ((0 : Int) ≤ x5)) (if (0 : Int) ≤ x5 ∧ x5 < (↑xs0.length : Int) then if IntKind.u64.wrap x1 = (0 : Int) then none else if (0 : Int) ≤ x5 ∧ x5 < (↑m2 : Int) then if IntKind.u64.wrap x1 = (0 : Int) then none else DivSmall.L6 xs0 x1 m2 (xs3.set x5.toNat (IntKind.u32.wrap (IntKind.u64.wrap ((IntKind.u64.wrap (IntKind.u64.wrap (x4 * (4294967296 : Int)) + IntKind.u64.wrap (xs0.getD x5.toNat (0 : Int)))).tdiv (IntKind.u64.wrap x1))))) ((IntKind.u64.wrap (IntKind.u64.wrap (x4 * (4294967296 : Int)) + IntKind.u64.wrap (xs0.getD x5.toNat (0 : Int)))).tmod (IntKind.u64.wrap x1)) (IntKind.i64.wrap (x5 - (1 : Int))) else none else none) (gif (Dig xs3 ∧ xs3.length ≤ (4398046511104 : Nat)) (some [D.own (163 : Nat) IntKind.u32 (dg (val xs3)), D.s (S.sc (Value.int IntKind.u32 (IntKind.u32.wrap x4)))])) := (loopAt_J rfl nok 6 _).trans (by kernel_rfl)
-- stuck: 0
end DivSmall
namespace DivSmall
theorem L {a : List Int} {w : Int} (ha : Dig a) (hla : a.length ≤ 1099511627776) (hw : 0 < w) (hw' : w < 4294967296) : ∀ (n : Nat) (q : List Int) (l : Int), Dig q → q.length = a.length → 0 ≤ l → l < w → n ≤ a.length →
    L6 a w a.length q l ((n : Int) - 1) = some [D.own tU32 .u32 (dg ((l.toNat * 4294967296 ^ n + val (a.take n)) / w.toNat + 4294967296 ^ n * val (q.drop n))), D.s (.sc (.int .u32 (((l.toNat * 4294967296 ^ n + val (a.take n)) % w.toNat : Nat) : Int)))] := by
  intro n
  induction n with
  | zero =>
    intro q l hq hql h0 h1 hn
    rw [L6_eq, bD_neg (by omega), gP ⟨hq, by omega⟩, wrap_u32]
    simp only [Nat.pow_zero, Nat.mul_one, List.take_zero, val, Nat.add_zero, List.drop_zero, Nat.one_mul]
    rw [Nat.div_eq_of_lt (by omega), Nat.zero_add, Nat.mod_eq_of_lt (by omega)]
    have e0 : l % 4294967296 = ((l.toNat : Nat) : Int) := by omega
    rw [e0]
  | succ n ih =>
    intro q l hq hql h0 h1 hn
    have g1 := ha.get n
    have e : (((n + 1 : Nat) : Int) - 1) = (n : Int) := by omega
    have e' : ((n : Int)).toNat = n := Int.toNat_natCast n
    have hu : wrap_u64 (n := w) (by omega) (by omega) = wrap_u64 (n := w) (by omega) (by omega) := rfl
    rw [e, L6_eq, bD_pos (by omega), if_pos (by omega), e', wrap_u64 (n := w) (by omega) (by omega), if_neg (by omega), if_pos (by omega), if_neg (by omega), wrap_u64 (n := l * 4294967296) (by omega) (by omega),
      wrap_u64 (n := a.getD n 0) (by omega) (by omega), wrap_u64 (n := l * 4294967296 + a.getD n 0) (by omega) (by omega), wrap_i64 (by omega) (by omega)]
    have hs0 : 0 ≤ l * 4294967296 + a.getD n 0 := by omega
    rw [Int.tdiv_eq_ediv_of_nonneg hs0, Int.tmod_eq_emod_of_nonneg hs0]
    have hqb : (l * 4294967296 + a.getD n 0) / w < 4294967296 := Int.ediv_lt_of_lt_mul hw (by
      have : (l + 1) * 4294967296 ≤ w * 4294967296 := Int.mul_le_mul_of_nonneg_right (by omega) (by omega)
      omega)
    have hq0 : 0 ≤ (l * 4294967296 + a.getD n 0) / w := Int.ediv_nonneg hs0 (by omega)
    have hm0 := Int.emod_nonneg (l * 4294967296 + a.getD n 0) (show w ≠ 0 by omega)
    have hm1 := Int.emod_lt_of_pos (l * 4294967296 + a.getD n 0) hw
    rw [wrap_u64 hq0 (by omega), wrap_u32, Int.emod_eq_of_lt hq0 hqb, ih _ _ (dig_set hq ⟨hq0, hqb⟩) (by simpa using hql) hm0 hm1 (by omega), val_drop_set (by omega), val_take_one]
    have hw2 : 0 < w.toNat := by omega
    have d1 : ((l * 4294967296 + a.getD n 0) / w).toNat = (l.toNat * 4294967296 + (a.getD n 0).toNat) / w.toNat := by
      rw [toNat_ediv' hs0 (by omega)]; congr 1; omega
    have d2 : ((l * 4294967296 + a.getD n 0) % w).toNat = (l.toNat * 4294967296 + (a.getD n 0).toNat) % w.toNat := by
      rw [toNat_emod' hs0 (by omega)]; congr 1; omega
    rw [d1, d2, Nat.pow_succ]
    generalize (a.getD n 0).toNat = x at *
    generalize l.toNat = l at *
    generalize val (a.take n) = v at *
    generalize 4294967296 ^ n = B at *
    have e3 : l * (B * 4294967296) + (v + B * x) = (l * 4294967296 + x) * B + v := by
      rw [Nat.add_mul, Nat.mul_comm B 4294967296, ← Nat.mul_assoc, Nat.mul_comm B x]; omega
    rw [e3, div_step hw2, mod_step (l := l) (B := 4294967296) (d := x), Nat.mul_add, Nat.mul_assoc, Nat.add_assoc]

noncomputable def sp (a : List Int) (w : Int) : Prop × List D := (Dig a ∧ a.length ≤ 1099511627776 ∧ (0 < w ∧ w < 4294967296), [.own tU32 .u32 (dg (val a / w.toNat)), .s (.sc (.int .u32 ((val a % w.toNat : Nat) : Int)))])
theorem spec (a : List Int) (w : Int) (h : (sp a w).1) : evalFn E Tryz.f266 cod [(pI .u32).put a, (pN .u32).put w] = some (sp a w).2 := by
  obtain ⟨ha, h1, hw⟩ := h
  refine (start a w).trans ?_
  rw [bE_neg (by omega), if_pos ⟨by omega, by omega, by omega⟩, wrap_i64 (by omega) (by omega), Int.toNat_natCast, L ha h1 hw.1 hw.2 a.length _ 0 (dig_replicate _) (by simp) (by omega) (by omega) (Nat.le_refl _)]
  simp [sp, val]

noncomputable def orc : Orc := orc2 (pI .u32) (pN .u32) sp
theorem fnok : FnOk Tryz.prog E 266 Tryz.f266 cod := fnOk ty_ok mixed (callsOk_of _ rfl (orcs_cons Norm.ok (orcs_cons Word.ok orcs_nil)) (ext_ok)) Tryz.func266 rfl rfl rfl
theorem ok : OrcOk Tryz.prog base.glob 266 orc := fnok.ok2 rfl spec
end DivSmall
end Go.Proofs.YtknafopmgaolmaaGreatDoor.W

/- gnomon/gnomonref01.Shr -/
namespace Go.Proofs.YtknafopmgaolmaaGreatDoor.W
open Go Go.Proofs.YtknafopmgaolmaaGreatDoor.AI Go.Proofs.YtknafopmgaolmaaGreatDoor.M
namespace Shr
noncomputable def E : Env := { ({ base with C := callsOf [(125, Norm.orc), (133, Word.orc), (266, DivSmall.orc)] }) with nt := 29, own := [10, 16, 25], keep := fun k => (tlook [] k).getD [], cut := tlook [] }
noncomputable def cod : Code := (Go.Proofs.Tryz.f236.body).getD .skip
theorem nok : namesOk E cod = true := by kernel_rfl
theorem start (a : List Int) (b : Int) : evalFn E Go.Proofs.Tryz.f236 cod [D.s (S.ints IntKind.u32 a), D.s (S.sc (Value.int IntKind.i64 b))] = bcase (decide (b ≤ (0 : Int))) (gif (Dig a ∧ a.length ≤ (4398046511104 : Nat)) (some [D.own (163 : Nat) IntKind.u32 (dg (val a))])) (bcase (decide ((↑a.length : Int) ≤ IntKind.i64.wrap (b.tdiv (32 : Int)))) (gif ((0 : Int) ≤ (0 : Int) ∧ (0 : Int) < (18446744073709551616 : Int)) (some [D.own (163 : Nat) IntKind.u32 (dg (0 : Nat))])) (if (0 : Int) ≤ IntKind.i64.wrap (b.tdiv (32 : Int)) ∧ IntKind.i64.wrap (b.tdiv (32 : Int)) ≤ (↑a.length : Int) ∧ (↑a.length : Int) ≤ (↑a.length : Int) then if b.tmod (32 : Int) < (0 : Int) then none else gif (Dig (List.drop (IntKind.i64.wrap (b.tdiv (32 : Int))).toNat (List.take (↑a.length : Int).toNat a)) ∧ (List.drop (IntKind.i64.wrap (b.tdiv (32 : Int))).toNat (List.take (↑a.length : Int).toNat a)).length ≤ (1099511627776 : Nat) ∧ (0 : Int) < IntKind.u32.wrap ((1 : Int) * (↑((2 : Nat) ^ min (b.tmod (32 : Int)).toNat (32 : Nat)) : Int)) ∧ IntKind.u32.wrap ((1 : Int) * (↑((2 : Nat) ^ min (b.tmod (32 : Int)).toNat (32 : Nat)) : Int)) < (4294967296 : Int)) (some [D.own (163 : Nat) IntKind.u32 (dg (val (List.drop (IntKind.i64.wrap (b.tdiv (32 : Int))).toNat (List.take (↑a.length : Int).toNat a)) / (IntKind.u32.wrap ((1 : Int) * (↑((2 : Nat) ^ min (b.tmod (32 : Int)).toNat (32 : Nat)) : Int))).toNat))]) else none)) := (evalFn_J rfl nok _).trans (by kernel_rfl)
-- stuck: 0
end Shr
namespace Shr
noncomputable def sp (a : List Int) (n : Int) : Prop × List D := (Dig a ∧ a.length ≤ 1099511627776 ∧ n < 9223372036854775808, [.own tU32 .u32 (dg (val a / 2 ^ n.toNat))])
theorem spec (a : List Int) (n : Int) (h : (sp a n).1) : evalFn E Tryz.f236 cod [(pI .u32).put a, (pN .i64).put n] = some (sp a n).2 := by
  obtain ⟨ha, h1, h2⟩ := h
  refine (start a n).trans ?_
  show _ = some [D.own tU32 .u32 (dg (val a / 2 ^ n.toNat))]
  by_cases hn : n ≤ 0
  · rw [bD_pos hn, gP ⟨ha, by omega⟩, show n.toNat = 0 from by omega, Nat.pow_zero, Nat.div_one]
  · have e1 : (n % 32).toNat = n.toNat % 32 := by omega
    have e2 : (n / 32).toNat = n.toNat / 32 := by omega
    rw [bD_neg hn, tdiv32 (by omega), tmod32 (by omega), wrap_i64 (n := n / 32) (by omega) (by omega)]
    by_cases hz : (a.length : Int) ≤ n / 32
    · rw [bD_pos hz, gP ⟨by omega, by omega⟩, Nat.div_eq_of_lt]
      rw [pow_split]
      have h3 : val a < 4294967296 ^ (n.toNat / 32) := Nat.lt_of_lt_of_le (val_lt ha) (Nat.pow_le_pow_right (by omega) (by omega))
      have hp0 : 0 < 2 ^ (n.toNat % 32) := Nat.pow_pos (by omega)
      exact Nat.lt_of_lt_of_le h3 (Nat.le_mul_of_pos_right _ hp0)
    · have hp : 2 ^ (n.toNat % 32) < 2 ^ 32 := Nat.pow_lt_pow_right (by omega) (by omega)
      have hp0 : 0 < 2 ^ (n.toNat % 32) := Nat.pow_pos (by omega)
      rw [bD_neg hz, if_pos ⟨by omega, by omega, by omega⟩, if_neg (by omega), shl_wrap (by omega) (by omega), Int.toNat_natCast, List.take_length, e1, e2]
      rw [gP ⟨ha.drop _, by rw [List.length_drop]; omega, by generalize 2 ^ (n.toNat % 32) = p at *; omega⟩, Int.toNat_natCast, val_drop_div ha, div_split]

noncomputable def orc : Orc := orc2 (pI .u32) (pN .i64) sp
theorem fnok : FnOk Tryz.prog E 236 Tryz.f236 cod := fnOk ty_ok mixed (callsOk_of _ rfl (orcs_cons Norm.ok (orcs_cons Word.ok (orcs_cons DivSmall.ok orcs_nil))) (ext_ok)) Tryz.func236 rfl rfl rfl
theorem ok : OrcOk Tryz.prog base.glob 236 orc := fnok.ok2 rfl spec
end Shr
end Go.Proofs.YtknafopmgaolmaaGreatDoor.W

/- gnomon/gnomonref01.To -/
namespace Go.Proofs.YtknafopmgaolmaaGreatDoor.W
open Go Go.Proofs.YtknafopmgaolmaaGreatDoor.AI Go.Proofs.YtknafopmgaolmaaGreatDoor.M
namespace To
noncomputable def E : Env := { ({ base with C := callsOf [(125, Norm.orc)] }) with nt := 44, own := [], keep := fun k => (tlook [(4, [3, 4, 5])] k).getD [], cut := tlook [] }
noncomputable def cod : Code := (Go.Proofs.Tryz.f184.body).getD .skip
theorem nok : namesOk E cod = true := by kernel_rfl
noncomputable def L4 (xs0 : List Int) (m1 : Nat) (xs2 : List Int) (x3 : Int) : Option (List D) := lpO E Go.Proofs.Tryz.f184 cod 4 [(A.v (V.one (L.s (S.ints IntKind.u32 xs0))), none), (A.v (V.one (L.buf (1 : Nat) m1)), some { e := (23 : Nat), cont := Cont.ints IntKind.u64 xs2 }), (A.v (V.one (L.s (S.sc (Value.int IntKind.i64 x3)))), none)]
theorem start (a : List Int) : evalFn E Go.Proofs.Tryz.f184 cod [D.s (S.ints IntKind.u32 a)] = gif (Dig a ∧ a.length ≤ (4398046511104 : Nat)) (if (0 : Int) ≤ (0 : Int) ∧ (0 : Int) ≤ IntKind.i64.wrap (IntKind.i64.wrap ((↑(dg (val a)).length : Int).tdiv (2 : Int)) + (1 : Int)) ∧ IntKind.i64.wrap (IntKind.i64.wrap ((↑(dg (val a)).length : Int).tdiv (2 : Int)) + (1 : Int)) ≤ (8796093022208 : Int) then To.L4 (dg (val a)) (0 : Nat) (List.replicate (0 : Nat) (0 : Int)) (0 : Int) else none) := (evalFn_J rfl nok _).trans (by kernel_rfl)
theorem L4_eq (xs0 : List Int) (m1 : Nat) (xs2 : List Int) (x3 : Int) : L4 xs0 m1 xs2 x3 = bcase (decide (x3 < (↑xs0.length : Int))) (if (0 : Int) ≤ x3 ∧ x3 < (↑xs0.length : Int) then bcase (decide (IntKind.i64.wrap (x3 + (1 : Int)) < (↑xs0.length : Int))) (if (0 : Int) ≤ IntKind.i64.wrap (x3 + (1 : Int)) ∧ IntKind.i64.wrap (x3 + (1 : Int)) < (↑xs0.length : Int) then if (0 : Nat) < [IntKind.u64.wrap (IntKind.u64.wrap (xs0.getD x3.toNat (0 : Int)) + IntKind.u64.wrap (IntKind.u64.wrap (xs0.getD (IntKind.i64.wrap (x3 + (1 : Int))).toNat (0 : Int)) * (4294967296 : Int)))].length ∧ (↑(xs2.length + [IntKind.u64.wrap (IntKind.u64.wrap (xs0.getD x3.toNat (0 : Int)) + IntKind.u64.wrap (IntKind.u64.wrap (xs0.getD (IntKind.i64.wrap (x3 + (1 : Int))).toNat (0 : Int)) * (4294967296 : Int)))].length) : Int) ≤ (8796093022208 : Int) then To.L4 xs0 (xs2.length + [IntKind.u64.wrap (IntKind.u64.wrap (xs0.getD x3.toNat (0 : Int)) + IntKind.u64.wrap (IntKind.u64.wrap (xs0.getD (IntKind.i64.wrap (x3 + (1 : Int))).toNat (0 : Int)) * (4294967296 : Int)))].length) (xs2 ++ [IntKind.u64.wrap (IntKind.u64.wrap (xs0.getD x3.toNat (0 : Int)) + IntKind.u64.wrap (IntKind.u64.wrap (xs0.getD (IntKind.i64.wrap (x3 + (1 : Int))).toNat (0 : Int)) * (4294967296 : Int)))]) (IntKind.i64.wrap (x3 + (2 : Int))) else none else none) (if (0 : Nat) < [IntKind.u64.wrap (xs0.getD x3.toNat (0 : Int))].length ∧ (↑(xs2.length + [IntKind.u64.wrap (xs0.getD x3.toNat (0 : Int))].length) : Int) ≤ (8796093022208 : Int) then To.L4 xs0 (xs2.length + [IntKind.u64.wrap (xs0.getD x3.toNat (0 : Int))].length) (xs2 ++ [IntKind.u64.wrap (xs0.getD x3.toNat (0 : Int))]) (IntKind.i64.wrap (x3 + (2 : Int))) else none) else none) (some [D.own (23 : Nat) IntKind.u64 xs2]) := (loopAt_J rfl nok 4 _).trans (by kernel_rfl)
-- stuck: 0
end To
namespace To
theorem L {d : List Int} (hd : Nrm d) (hl : d.length ≤ 4398046511104) : ∀ (k i : Nat) (xs : List Int), i + k ≥ d.length → i ≤ d.length + 1 → xs.length ≤ i →
    L4 d xs.length xs i = some [D.own tU64 .u64 (xs ++ M6.dg (val (d.drop i)))] := by
  intro k
  induction k using Nat.strongRecOn with
  | _ k ih =>
    intro i xs hk hi hxl
    rw [L4_eq]
    by_cases h : i < d.length
    · have g0 := hd.dig.get i
      have g1 := hd.dig.get (i + 1)
      have e' : ((i : Int)).toNat = i := Int.toNat_natCast i
      have e1 : ((i : Int) + 1).toNat = i + 1 := by omega
      have hz : val (d.drop i) ≠ 0 := by
        intro h0
        have hn : Nrm (d.drop i) := nrm_of (hd.dig.drop i) fun e he => hd.top (by
          rw [List.getLast?_drop] at he
          rw [if_neg (by omega)] at he
          exact he)
        have := (len_zero hn).2 h0
        rw [List.length_drop] at this
        omega
      have ev := val_drop_one (a := d) i
      have ev1 : val (d.drop (i + 1)) = (d.getD (i + 1) 0).toNat + 4294967296 * val (d.drop (i + 2)) := val_drop_one (i + 1)
      have key : M6.dg (val (d.drop i)) = (d.getD i 0 + d.getD (i + 1) 0 * 4294967296) :: M6.dg (val (d.drop (i + 2))) := by
        rw [M6.dg_pos hz]
        congr 1
        · omega
        · congr 1; omega
      rw [bD_pos (by omega), if_pos (by omega), e', wrap_i64 (n := (i : Int) + 1) (by omega) (by omega), wrap_i64 (n := (i : Int) + 2) (by omega) (by omega), e1, wrap_u64 (n := d.getD i 0) (by omega) (by omega), wrap_u64 (n := d.getD (i + 1) 0) (by omega) (by omega),
        wrap_u64 (n := d.getD (i + 1) 0 * 4294967296) (by omega) (by omega), wrap_u64 (by omega) (by omega)]
      by_cases h1 : i + 1 < d.length
      · rw [bD_pos (by omega), if_pos (by omega), if_pos ⟨by simp, by simp; omega⟩]
        have := ih (k - 2) (by omega) (i + 2) (xs ++ [d.getD i 0 + d.getD (i + 1) 0 * 4294967296]) (by omega) (by omega) (by simp; omega)
        simp only [List.length_append, List.length_cons, List.length_nil] at this ⊢
        rw [show ((i : Int) + 2) = ((i + 2 : Nat) : Int) from by omega, this, key, List.append_assoc]
        rfl
      · have hd1 : d.getD (i + 1) 0 = 0 := getD_none (by omega)
        rw [bD_neg (by omega), if_pos ⟨by simp, by simp; omega⟩]
        have := ih (k - 1) (by omega) (i + 2) (xs ++ [d.getD i 0]) (by omega) (by omega) (by simp; omega)
        simp only [List.length_append, List.length_cons, List.length_nil] at this ⊢
        rw [show ((i : Int) + 2) = ((i + 2 : Nat) : Int) from by omega, this, key, hd1, Int.zero_mul, Int.add_zero, List.append_assoc]
        rfl
    · rw [bD_neg (by omega), List.drop_eq_nil_of_le (by omega)]
      simp [val, M6.dg_zero]

noncomputable def sp (a : List Int) : Prop × List D := (Dig a ∧ a.length ≤ 1099511627776, [.own tU64 .u64 (M6.dg (val a))])
theorem spec (a : List Int) (h : (sp a).1) : evalFn E Tryz.f184 cod [(pI .u32).put a] = some (sp a).2 := by
  obtain ⟨ha, h1⟩ := h
  refine (start a).trans ?_
  have := len_val ha
  rw [gP ⟨ha, by omega⟩, Int.tdiv_eq_ediv_of_nonneg (by omega), wrap_i64 (n := ((dg (val a)).length : Int) / 2) (by omega) (by omega), wrap_i64 (by omega) (by omega), if_pos ⟨by omega, by omega, by omega⟩]
  have := L (nrm_dg (val a)) (by omega) (dg (val a)).length 0 [] (by omega) (by omega) (by simp)
  simp only [List.length_nil, List.drop_zero, List.nil_append, val_dg] at this
  exact this

noncomputable def orc : Orc := orc1 (pI .u32) sp
theorem fnok : FnOk Tryz.prog E 184 Tryz.f184 cod := fnOk ty_ok mixed (callsOk_of _ rfl (orcs_cons Norm.ok orcs_nil) (ext_ok)) Tryz.func184 rfl rfl rfl
theorem ok : OrcOk Tryz.prog base.glob 184 orc := fnok.ok1 rfl spec
end To
end Go.Proofs.YtknafopmgaolmaaGreatDoor.W

/- gnomon/gnomonref04.To -/
namespace Go.Proofs.YtknafopmgaolmaaGreatDoor.W
open Go Go.Proofs.YtknafopmgaolmaaGreatDoor.AI Go.Proofs.YtknafopmgaolmaaGreatDoor.M
namespace ZTo
noncomputable def E : Env := { ({ base with C := callsOf [(184, To.orc)] }) with nt := 15, own := [], keep := fun k => (tlook [] k).getD [], cut := tlook [] }
noncomputable def cod : Code := (Go.Proofs.Tryz.f124.body).getD .skip
theorem nok : namesOk E cod = true := by kernel_rfl
theorem start (a1 : Bool) (a2 : List Int) : evalFn E Go.Proofs.Tryz.f124 cod [D.agg [S.sc (Value.bool a1), S.ints IntKind.u32 a2]] = bcase a1 (gif (Dig a2 ∧ a2.length ≤ (1099511627776 : Nat)) (some [D.agg [S.sc (Value.bool (decide ((0 : Int) < (↑a2.length : Int)))), S.ints IntKind.u64 (M6.dg (val a2))]])) (gif (Dig a2 ∧ a2.length ≤ (1099511627776 : Nat)) (some [D.agg [S.sc (Value.bool false), S.ints IntKind.u64 (M6.dg (val a2))]])) := (evalFn_J rfl nok _).trans (by kernel_rfl)
-- stuck: 0
end ZTo
namespace ZTo
noncomputable def sp (x : Bool × List Int) : Prop × List D := (Zok x, [wD (zv x)])
theorem spec (x : Bool × List Int) (h : (sp x).1) : evalFn E Tryz.f124 cod [(pG (.pair sB (sI .u32))).put x] = some (sp x).2 := by
  have h : Zok x := h
  have l := h.len
  have hz := len_zero h.1
  refine (start x.1 x.2).trans ?_
  obtain ⟨b, a⟩ := x
  try dsimp only at *
  show _ = some [wD (zs b (val a))]
  rw [wD_zs]
  cases b with
  | false => rw [bF, gP ⟨h.1.dig, by omega⟩]; rfl
  | true =>
    rw [bT, gP ⟨h.1.dig, by omega⟩, Bool.true_and]
    have : decide (0 < (a.length : Int)) = decide (val a ≠ 0) := by
      by_cases h : val a = 0
      · rw [decide_eq_false (by omega), decide_eq_false (by omega)]
      · rw [decide_eq_true (by omega), decide_eq_true h]
    rw [this]

noncomputable def orc : Orc := orc1 (pG (.pair sB (sI .u32))) sp
theorem fnok : FnOk Tryz.prog E 124 Tryz.f124 cod := fnOk ty_ok mixed (callsOk_of _ rfl (orcs_cons To.ok orcs_nil) (ext_ok)) Tryz.func124 rfl rfl rfl
theorem ok : OrcOk Tryz.prog base.glob 124 orc := fnok.ok1 rfl spec
end ZTo
end Go.Proofs.YtknafopmgaolmaaGreatDoor.W

/- gnomon/gnomonref05.Told -/
namespace Go.Proofs.YtknafopmgaolmaaGreatDoor.W
open Go Go.Proofs.YtknafopmgaolmaaGreatDoor.AI Go.Proofs.YtknafopmgaolmaaGreatDoor.M
namespace Told5
noncomputable def E : Env := { ({ base with C := callsOf [(235, Zeros.orc), (236, Shr.orc), (131, Mk.orc), (124, ZTo.orc)] }) with nt := 52, own := [], keep := fun k => (tlook [] k).getD [], cut := tlook [(5, [1, 2, 4]), (9, [1, 2, 4, 6, 7])] }
noncomputable def cod : Code := (Go.Proofs.Tryz.f199.body).getD .skip
theorem nok : namesOk E cod = true := by kernel_rfl
noncomputable def J5 (x0 : Int) (b1 : Bool) (xs2 : List Int) (b3 : Bool) (x4 : Int) : Option (List D) := ctO E Go.Proofs.Tryz.f199 cod 5 [(A.v (V.one (L.s (S.sc (Value.int IntKind.i64 x0)))), none), (A.v (V.one (L.ptr (1 : Nat) (0 : Nat))), some { e := (97 : Nat), cont := Cont.cells [S.sc (Value.bool b1), S.ints IntKind.u32 xs2] }), (A.v (V.one (L.ptr (2 : Nat) (0 : Nat))), some { e := (35 : Nat), cont := Cont.cells [S.sc (Value.bool b3), S.sc (Value.slice none (0 : Nat) (0 : Nat)), S.sc (Value.int IntKind.i64 x4)] })]
noncomputable def J9 (x0 : Int) (b1 : Bool) (xs2 : List Int) (b3 : Bool) (x4 : Int) (x5 : Int) (xs6 : List Int) : Option (List D) := ctO E Go.Proofs.Tryz.f199 cod 9 [(A.v (V.one (L.s (S.sc (Value.int IntKind.i64 x0)))), none), (A.v (V.one (L.ptr (1 : Nat) (0 : Nat))), some { e := (97 : Nat), cont := Cont.cells [S.sc (Value.bool b1), S.ints IntKind.u32 xs2] }), (A.v (V.one (L.ptr (2 : Nat) (0 : Nat))), some { e := (35 : Nat), cont := Cont.cells [S.sc (Value.bool b3), S.sc (Value.slice none (0 : Nat) (0 : Nat)), S.sc (Value.int IntKind.i64 x4)] }), (A.v (V.one (L.s (S.sc (Value.int IntKind.i64 x5)))), none), (A.v (V.one (L.s (S.ints IntKind.u32 xs6))), none)]
theorem start (a1 : Bool) (a2 : List Int) (b : Int) : evalFn E Go.Proofs.Tryz.f199 cod [D.agg [S.sc (Value.bool a1), S.ints IntKind.u32 a2], D.s (S.sc (Value.int IntKind.i64 b))] = bcase ((↑a2.length : Int) == (0 : Int)) (some [D.agg [S.sc (Value.bool false), S.sc (Value.slice none (0 : Nat) (0 : Nat)), S.sc (Value.int IntKind.i64 (0 : Int))], D.s (S.sc (Value.int IntKind.i64 (0 : Int)))]) (bcase (decide ((1048576 : Int) < b)) (some [D.agg [S.sc (Value.bool false), S.sc (Value.slice none (0 : Nat) (0 : Nat)), S.sc (Value.int IntKind.i64 (0 : Int))], D.s (S.sc (Value.int IntKind.i64 (5 : Int)))]) (bcase (decide (b < (-1099511627776 : Int))) (some [D.agg [S.sc (Value.bool false), S.sc (Value.slice none (0 : Nat) (0 : Nat)), S.sc (Value.int IntKind.i64 (0 : Int))], D.s (S.sc (Value.int IntKind.i64 (5 : Int)))]) (Told5.J5 b a1 a2 false (0 : Int)))) := (evalFn_J rfl nok _).trans (by kernel_rfl)
theorem J5_eq (x0 : Int) (b1 : Bool) (xs2 : List Int) (b3 : Bool) (x4 : Int) : J5 x0 b1 xs2 b3 x4 = gif (Nrm xs2 ∧ xs2.length ≤ (1099511627776 : Nat)) (vlet (if val xs2 = (0 : Nat) then (0 : Int) else (↑(tz (val xs2)) : Int)) fun y0 => gif (Dig xs2 ∧ xs2.length ≤ (1099511627776 : Nat) ∧ y0 < (9223372036854775808 : Int)) (vlet (dg (val xs2 / (2 : Nat) ^ y0.toNat)) fun y1 => bcase (decide ((16384 : Int) < (↑y1.length : Int))) (some [D.agg [S.sc (Value.bool false), S.sc (Value.slice none (0 : Nat) (0 : Nat)), S.sc (Value.int IntKind.i64 (0 : Int))], D.s (S.sc (Value.int IntKind.i64 (5 : Int)))]) (bcase (decide (IntKind.i64.wrap (x0 + y0) < (-1048576 : Int))) (some [D.agg [S.sc (Value.bool false), S.sc (Value.slice none (0 : Nat) (0 : Nat)), S.sc (Value.int IntKind.i64 (0 : Int))], D.s (S.sc (Value.int IntKind.i64 (5 : Int)))]) (bcase (decide ((1048576 : Int) < IntKind.i64.wrap (x0 + y0))) (some [D.agg [S.sc (Value.bool false), S.sc (Value.slice none (0 : Nat) (0 : Nat)), S.sc (Value.int IntKind.i64 (0 : Int))], D.s (S.sc (Value.int IntKind.i64 (5 : Int)))]) (Told5.J9 x0 b1 xs2 b3 x4 y0 y1))))) := (cutAt_J rfl nok 5 _).trans (by kernel_rfl)
theorem J9_eq (x0 : Int) (b1 : Bool) (xs2 : List Int) (b3 : Bool) (x4 : Int) (x5 : Int) (xs6 : List Int) : J9 x0 b1 xs2 b3 x4 x5 xs6 = gif (Dig xs6 ∧ xs6.length ≤ (4398046511104 : Nat)) (gif (Zok (isNeg (zs b1 (val xs6)), dg (zs b1 (val xs6)).natAbs)) (vlet (isNeg (zv (isNeg (zs b1 (val xs6)), dg (zs b1 (val xs6)).natAbs))) fun y2 => vlet (M6.dg (zv (isNeg (zs b1 (val xs6)), dg (zs b1 (val xs6)).natAbs)).natAbs) fun y3 => some [D.agg [S.sc (Value.bool y2), S.ints IntKind.u64 y3, S.sc (Value.int IntKind.i64 (IntKind.i64.wrap (x0 + x5)))], D.s (S.sc (Value.int IntKind.i64 (0 : Int)))])) := (cutAt_J rfl nok 9 _).trans (by kernel_rfl)
-- stuck: 0
end Told5
namespace Told5
/-- m * 2^e in form, where it fits. -/
def toldOk (z e : Int) : Bool := inD z e && fit (nrmD z e).1.natAbs
noncomputable def sp (x : Bool × List Int) (e : Int) : Prop × List D := (Zok x ∧ x.2.length ≤ 268435456 ∧ -4611686018427387904 ≤ e ∧ e < 4611686018427387904, dE (toldOk (zv x) e) (nrmD (zv x) e))
theorem nil_dE (p : Int × Int) (ok : Bool) (n : Int) (h1 : ok = true → p = (0, 0)) (h2 : n = bif ok then 0 else 5) : RsLe [D.agg [.sc (.bool false), .sc (.slice none 0 0), .sc (.int .i64 0)], .s (.sc (.int .i64 n))] (dE ok p) := by
  subst h2
  have : (bif ok then p else ((0 : Int), (0 : Int))) = (0, 0) := by
    cases ok with
    | true => exact h1 rfl
    | false => rfl
  unfold dE
  rw [this]
  refine .cons ?_ (RsLe.refl _)
  unfold dD
  rw [show ((0, 0) : Int × Int).1.natAbs = 0 from rfl, M6.dg_zero]
  exact RLe.agg (.cons (SLe.refl _) (.cons (SLe.nil _) (CsLe.refl _)))
theorem len_le_bl {n k : Nat} (h : bl n ≤ 32 * k) : (dg n).length ≤ k := len_dg_le (by rw [pow32]; exact bl_le.1 h)
theorem fit_len {n : Nat} : fit n = decide ((dg n).length ≤ 16384) := by
  unfold fit
  by_cases h : bl n ≤ 524288
  · rw [decide_eq_true h, decide_eq_true (len_le_bl (k := 16384) (by omega))]
  · rw [decide_eq_false h, decide_eq_false (fun hl => h ?_)]
    have := bl_len (dig_dg n) hl
    rw [val_dg] at this
    omega
theorem spec (x : Bool × List Int) (e : Int) (h : (sp x e).1) : ∃ rs, evalFn E Tryz.f199 cod [(pG (.pair sB (sI .u32))).put x, (pN .i64).put e] = some rs ∧ RsLe rs (sp x e).2 := by
  obtain ⟨hx, lx, he0, he1⟩ := h
  have s := start x.1 x.2 e
  have hz := len_zero hx.1
  have bx := bl_len hx.1.dig lx
  have hn := hx.1
  obtain ⟨b, a⟩ := x
  try dsimp only at *
  unfold sp
  try dsimp only
  have ha : (zv (b, a)).natAbs = val a := zv_abs (b, a)
  by_cases h0 : a.length = 0
  · have hv : zv (b, a) = 0 := by have := hz.1 h0; omega
    rw [bE_pos (by omega)] at s
    exact ⟨_, s, nil_dE _ _ _ (fun _ => by rw [hv, nrmD_zero]) (by unfold toldOk; rw [hv, nrmD_zero]; rfl)⟩
  · have hv : val a ≠ 0 := fun h => h0 (hz.2 h)
    have hw : zv (b, a) ≠ 0 := by omega
    have ht := tz_bl hv
    obtain ⟨n1, n2⟩ := nrmD_val (e := e) hw
    rw [ha] at n2
    have hin : inD (zv (b, a)) e = (decide (-1048576 ≤ e + ((tz (val a) : Nat) : Int)) && decide (e + ((tz (val a) : Nat) : Int) ≤ 1048576)) := by
      unfold inD
      rw [decide_eq_false hw, Bool.false_or, ha]
    have hnf : nrmD (zv (b, a)) e = (zs b (val a / 2 ^ tz (val a)), e + ((tz (val a) : Nat) : Int)) := by
      unfold nrmD
      rw [if_neg hw, ha]
      have := zs_div (b := b) (Nat.pow_pos (n := tz (val a)) (show 0 < 2 by decide)) (tz_spec _ hv).1
      rw [← this]
      rfl
    have hfit : fit (nrmD (zv (b, a)) e).1.natAbs = decide ((dg (val a / 2 ^ tz (val a))).length ≤ 16384) := by
      rw [hnf, ← fit_len]
      try dsimp only
      rw [zs_abs]
    have no : inD (zv (b, a)) e = false → toldOk (zv (b, a)) e = false := fun h => by unfold toldOk; rw [h]; rfl
    rw [bE_neg (by omega)] at s
    by_cases c1 : 1048576 < e
    · rw [bD_pos c1] at s
      exact ⟨_, s, nil_dE _ _ _ (fun h => by rw [no (by rw [hin, decide_eq_false (show ¬ e + ((tz (val a) : Nat) : Int) ≤ 1048576 by omega), Bool.and_false])] at h; cases h) (by rw [no (by rw [hin, decide_eq_false (show ¬ e + ((tz (val a) : Nat) : Int) ≤ 1048576 by omega), Bool.and_false])]; rfl)⟩
    · rw [bD_neg c1] at s
      by_cases c2 : e < -1099511627776
      · rw [bD_pos c2] at s
        have hf : toldOk (zv (b, a)) e = false := no (by rw [hin, decide_eq_false (show ¬ -1048576 ≤ e + ((tz (val a) : Nat) : Int) by omega), Bool.false_and])
        exact ⟨_, s, nil_dE _ _ _ (fun h => by rw [hf] at h; cases h) (by rw [hf]; rfl)⟩
      · have hdl := len_dg_div (val a) (2 ^ tz (val a))
        rw [show (dg (val a)).length = a.length from nrm_len hn] at hdl
        rw [bD_neg c2, J5_eq, gP ⟨hn, by omega⟩, if_neg hv, vl, gP ⟨hn.dig, by omega, by omega⟩, Int.toNat_natCast, vl, wrap_i64 (n := e + ((tz (val a) : Nat) : Int)) (by omega) (by omega)] at s
        by_cases c3 : (16384 : Int) < ((dg (val a / 2 ^ tz (val a))).length : Int)
        · rw [bD_pos c3] at s
          have hf : toldOk (zv (b, a)) e = false := by unfold toldOk; rw [hfit, decide_eq_false (by omega), Bool.and_false]
          exact ⟨_, s, nil_dE _ _ _ (fun h => by rw [hf] at h; cases h) (by rw [hf]; rfl)⟩
        · rw [bD_neg c3] at s
          by_cases c4 : e + ((tz (val a) : Nat) : Int) < -1048576
          · rw [bD_pos c4] at s
            have hf : toldOk (zv (b, a)) e = false := no (by rw [hin, decide_eq_false (show ¬ -1048576 ≤ e + ((tz (val a) : Nat) : Int) by omega), Bool.false_and])
            exact ⟨_, s, nil_dE _ _ _ (fun h => by rw [hf] at h; cases h) (by rw [hf]; rfl)⟩
          · rw [bD_neg c4] at s
            by_cases c5 : 1048576 < e + ((tz (val a) : Nat) : Int)
            · rw [bD_pos c5] at s
              have hf : toldOk (zv (b, a)) e = false := no (by rw [hin, decide_eq_false (show ¬ e + ((tz (val a) : Nat) : Int) ≤ 1048576 by omega), Bool.and_false])
              exact ⟨_, s, nil_dE _ _ _ (fun h => by rw [hf] at h; cases h) (by rw [hf]; rfl)⟩
            · have hz1 : Zok (isNeg (zs b (val a / 2 ^ tz (val a))), dg (zs b (val a / 2 ^ tz (val a))).natAbs) := zok_zD (by rw [zs_abs]; omega)
              rw [bD_neg c5, J9_eq, gP ⟨dig_dg _, by omega⟩, val_dg, gP hz1, zv_zD, vl, vl, wrap_i64 (n := e + ((tz (val a) : Nat) : Int)) (by omega) (by omega)] at s
              refine ⟨_, s, ?_⟩
              have ht : toldOk (zv (b, a)) e = true := by
                unfold toldOk
                rw [hin, hfit, decide_eq_true (show -1048576 ≤ e + ((tz (val a) : Nat) : Int) by omega), decide_eq_true (show e + ((tz (val a) : Nat) : Int) ≤ 1048576 by omega), decide_eq_true (by omega)]
                rfl
              rw [ht, hnf]
              exact RsLe.refl _

noncomputable def orc : Orc := orc2 (pG (.pair sB (sI .u32))) (pN .i64) sp
theorem fnok : FnOk Tryz.prog E 199 Tryz.f199 cod := fnOk ty_ok mixed (callsOk_of _ rfl (orcs_cons Zeros.ok (orcs_cons Shr.ok (orcs_cons Mk.ok (orcs_cons ZTo.ok orcs_nil)))) (ext_ok)) Tryz.func199 rfl rfl rfl
theorem ok : OrcOk Tryz.prog base.glob 199 orc := fnok.wk2 rfl spec
end Told5
end Go.Proofs.YtknafopmgaolmaaGreatDoor.W

/- gnomon/gnomonref05.DocOf -/
namespace Go.Proofs.YtknafopmgaolmaaGreatDoor.W
open Go Go.Proofs.YtknafopmgaolmaaGreatDoor.AI Go.Proofs.YtknafopmgaolmaaGreatDoor.M
namespace DocOf5
noncomputable def E : Env := { ({ base with C := callsOf [(67, ZOf.orc), (199, Told5.orc)] }) with nt := 12, own := [], keep := fun k => (tlook [] k).getD [], cut := tlook [] }
noncomputable def cod : Code := (Go.Proofs.Tryz.f146.body).getD .skip
theorem nok : namesOk E cod = true := by kernel_rfl
theorem start (a : Int) : evalFn E Go.Proofs.Tryz.f146 cod [D.s (S.sc (Value.int IntKind.i64 a))] = gif ((-9223372036854775808 : Int) ≤ a ∧ a < (9223372036854775808 : Int)) (gif (Zok (isNeg a, dg a.natAbs) ∧ (dg a.natAbs).length ≤ (268435456 : Nat) ∧ (-4611686018427387904 : Int) ≤ (0 : Int) ∧ (0 : Int) < (4611686018427387904 : Int)) (vlet (isNeg (bif Told5.toldOk (zv (isNeg a, dg a.natAbs)) (0 : Int) then nrmD (zv (isNeg a, dg a.natAbs)) (0 : Int) else ((0 : Int), (0 : Int))).fst) fun y0 => vlet (M6.dg (bif Told5.toldOk (zv (isNeg a, dg a.natAbs)) (0 : Int) then nrmD (zv (isNeg a, dg a.natAbs)) (0 : Int) else ((0 : Int), (0 : Int))).fst.natAbs) fun y1 => vlet (bif Told5.toldOk (zv (isNeg a, dg a.natAbs)) (0 : Int) then nrmD (zv (isNeg a, dg a.natAbs)) (0 : Int) else ((0 : Int), (0 : Int))).snd fun y2 => some [D.agg [S.sc (Value.bool y0), S.ints IntKind.u64 y1, S.sc (Value.int IntKind.i64 y2)]])) := (evalFn_J rfl nok _).trans (by kernel_rfl)
-- stuck: 0
end DocOf5
namespace DocOf5
noncomputable def sp (a : Int) : Prop × List D := (-9223372036854775808 ≤ a ∧ a < 9223372036854775808, [dD (nrmD a 0)])
theorem spec (a : Int) (h : (sp a).1) : evalFn E Tryz.f146 cod [(pN .i64).put a] = some (sp a).2 := by
  have h : -9223372036854775808 ≤ a ∧ a < 9223372036854775808 := h
  have hb : bl a.natAbs ≤ 64 := bl_le.2 (by omega)
  have hl : (dg a.natAbs).length ≤ 2 := len_dg_le (by omega)
  refine (start a).trans ((gP h).trans ((gP ⟨zok_zD (by omega), by (try dsimp only); omega, by omega, by omega⟩).trans ?_))
  rw [zv_zD]
  have : Told5.toldOk a 0 = true := by
    unfold Told5.toldOk fit
    have := nrmD_abs a 0
    rw [inD_of (by omega) (by omega), decide_eq_true (Nat.le_trans (bl_mono this) (by omega))]
    rfl
  rw [this, cond_true, vl_dy]
  rfl

noncomputable def orc : Orc := orc1 (pN .i64) sp
theorem fnok : FnOk Tryz.prog E 146 Tryz.f146 cod := fnOk ty_ok mixed (callsOk_of _ rfl (orcs_cons ZOf.ok (orcs_cons Told5.ok orcs_nil)) (ext_ok)) Tryz.func146 rfl rfl rfl
theorem ok : OrcOk Tryz.prog base.glob 146 orc := fnok.ok1 rfl spec
end DocOf5
end Go.Proofs.YtknafopmgaolmaaGreatDoor.W

/- gnomon/gnomonlaw17.point -/
namespace Go.Proofs.YtknafopmgaolmaaGreatDoor.W
open Go Go.Proofs.YtknafopmgaolmaaGreatDoor.AI Go.Proofs.YtknafopmgaolmaaGreatDoor.M
namespace LPoint
noncomputable def E : Env := { ({ base with C := callsOf [(146, DocOf5.orc)] }) with nt := 8, own := [], keep := fun k => (tlook [] k).getD [], cut := tlook [] }
noncomputable def cod : Code := (Go.Proofs.Tryz.f88.body).getD .skip
theorem nok : namesOk E cod = true := by kernel_rfl
theorem start (a : Int) : evalFn E Go.Proofs.Tryz.f88 cod [D.s (S.sc (Value.int IntKind.i64 a))] = gif ((-9223372036854775808 : Int) ≤ a ∧ a < (9223372036854775808 : Int)) (vlet (isNeg (nrmD a (0 : Int)).fst) fun y0 => vlet (M6.dg (nrmD a (0 : Int)).fst.natAbs) fun y1 => vlet (nrmD a (0 : Int)).snd fun y2 => gif ((-9223372036854775808 : Int) ≤ a ∧ a < (9223372036854775808 : Int)) (vlet (isNeg (nrmD a (0 : Int)).fst) fun y3 => vlet (M6.dg (nrmD a (0 : Int)).fst.natAbs) fun y4 => vlet (nrmD a (0 : Int)).snd fun y5 => some [D.agg [S.sc (Value.bool y0), S.ints IntKind.u64 y1, S.sc (Value.int IntKind.i64 y2), S.sc (Value.bool y3), S.ints IntKind.u64 y4, S.sc (Value.int IntKind.i64 y5)]])) := (evalFn_J rfl nok _).trans (by kernel_rfl)
-- stuck: 0
end LPoint
namespace LPoint
noncomputable def sp (m : Int) : Prop × List D := (-9223372036854775808 ≤ m ∧ m < 9223372036854775808, [UPoint.sD (nrmD m 0) (nrmD m 0)])
theorem spec (m : Int) (h : (sp m).1) : evalFn E Tryz.f88 cod [(pN .i64).put m] = some (sp m).2 := by
  have h : -9223372036854775808 ≤ m ∧ m < 9223372036854775808 := h
  refine (start m).trans ?_
  rw [gP h, vl_dy, gP h, vl_dy]
  rfl

noncomputable def orc : Orc := orc1 (pN .i64) sp
theorem fnok : FnOk Tryz.prog E 88 Tryz.f88 cod := fnOk ty_ok mixed (callsOk_of _ rfl (orcs_cons DocOf5.ok orcs_nil) (ext_ok)) Tryz.func88 rfl rfl rfl
theorem ok : OrcOk Tryz.prog base.glob 88 orc := fnok.ok1 rfl spec
end LPoint
end Go.Proofs.YtknafopmgaolmaaGreatDoor.W

/- gnomon/gnomonlaw17.awake -/
namespace Go.Proofs.YtknafopmgaolmaaGreatDoor.W
open Go Go.Proofs.YtknafopmgaolmaaGreatDoor.AI Go.Proofs.YtknafopmgaolmaaGreatDoor.M
namespace LAwake
noncomputable def E : Env := { ({ base with C := callsOf [(49, UReduce.orc), (50, UExact.orc), (38, UEnclose.orc), (87, LSame.orc), (88, LPoint.orc)] }) with nt := 59, own := [57], keep := fun k => (tlook [] k).getD [], cut := tlook [] }
noncomputable def cod : Code := (Go.Proofs.Tryz.f35.body).getD .skip
theorem nok : namesOk E cod = true := by kernel_rfl
theorem start : evalFn E Go.Proofs.Tryz.f35 cod [] = gif ((0 : Int) ≤ (4598175219545276416 : Int) ∧ (4598175219545276416 : Int) < (18446744073709551616 : Int)) (vlet (isNeg (bif BFinite.finB (64 : Int) (4598175219545276416 : Int) then UReduce.redD (UReduce.numV (4598175219545276416 : Int)) else ((0 : Int), (0 : Int))).fst) fun y0 => gif ((0 : Int) ≤ (4609434218613702656 : Int) ∧ (4609434218613702656 : Int) < (18446744073709551616 : Int)) (gif (((0 : Int) ≤ (4609434218613702656 : Int) ∧ (4609434218613702656 : Int) < (18446744073709551616 : Int)) ∧ UEnclose.EncIn (4 : Int) (4609434218613702656 : Int) (7 : Int)) (vlet (isNeg (nrmD (UEnclose.encV (4 : Int) (4609434218613702656 : Int)) (0 : Int)).fst) fun y2 => vlet (M6.dg (nrmD (UEnclose.encV (4 : Int) (4609434218613702656 : Int)) (0 : Int)).fst.natAbs) fun y3 => vlet (nrmD (UEnclose.encV (4 : Int) (4609434218613702656 : Int)) (0 : Int)).snd fun y4 => vlet (isNeg (nrmD (UEnclose.encV (4 : Int) (4609434218613702656 : Int)) (0 : Int)).fst) fun y5 => vlet (M6.dg (nrmD (UEnclose.encV (4 : Int) (4609434218613702656 : Int)) (0 : Int)).fst.natAbs) fun y6 => vlet (nrmD (UEnclose.encV (4 : Int) (4609434218613702656 : Int)) (0 : Int)).snd fun y7 => bcase (!y0) (some [D.s (S.sc (Value.bool false))]) (gif ((-9223372036854775808 : Int) ≤ (-1 : Int) ∧ (-1 : Int) < (9223372036854775808 : Int)) (vlet (isNeg (nrmD (-1 : Int) (0 : Int)).fst) fun y8 => vlet (M6.dg (nrmD (-1 : Int) (0 : Int)).fst.natAbs) fun y9 => vlet (nrmD (-1 : Int) (0 : Int)).snd fun y10 => vlet (isNeg (nrmD (-1 : Int) (0 : Int)).fst) fun y11 => vlet (M6.dg (nrmD (-1 : Int) (0 : Int)).fst.natAbs) fun y12 => vlet (nrmD (-1 : Int) (0 : Int)).snd fun y13 => gif ((DyOk (y2, y3, y4) ∧ DyOk (y8, y9, y10)) ∧ DyOk (y5, y6, y7) ∧ DyOk (y11, y12, y13)) (vlet (decide (dv (LSame.lo (y2, y3, y4, y5, y6, y7)) = dv (LSame.lo (y8, y9, y10, y11, y12, y13))) && decide (dv (LSame.hi (y2, y3, y4, y5, y6, y7)) = dv (LSame.hi (y8, y9, y10, y11, y12, y13)))) fun y14 => some [D.s (S.sc (Value.bool y14))])))))) := (evalFn_J rfl nok _).trans (by kernel_rfl)
-- stuck: 0
end LAwake
namespace LAwake
theorem num1 : UReduce.numV 4598175219545276416 = (1, -2) := by
  have e1 : BValue.valZ 64 4598175219545276416 = 1 * p2 52 := by decide
  have e2 : BValue.valE 64 4598175219545276416 = -54 := by decide
  unfold UReduce.numV
  rw [e1, e2, nrmD_p2 _ _ (by omega)]
  exact nrmD_same (p := (1, -2)) (by decide) (by decide)
theorem num3 : UExact.numF 64 4609434218613702656 = (3, -1) := by
  have e1 : BValue.valZ 64 4609434218613702656 = 3 * p2 51 := by decide
  have e2 : BValue.valE 64 4609434218613702656 = -52 := by decide
  unfold UExact.numF
  rw [e1, e2, nrmD_p2 _ _ (by omega)]
  exact nrmD_same (p := (3, -1)) (by decide) (by decide)
theorem red1 : UReduce.redD (1, -2) = (-1, -2) := by
  have e1 : UReduce.redR (1, -2) = -(1 * p2 1) := by decide
  unfold UReduce.redD
  rw [e1, nrmD_neg, nrmD_p2 _ _ (by omega)]
  show (-(nrmD 1 (-2)).1, (nrmD 1 (-2)).2) = _
  rw [nrmD_same (p := (1, -2)) (by decide) (by decide)]
theorem fin1 : BFinite.finB 64 4598175219545276416 = true := by decide
theorem fin3 : BFinite.finB 64 4609434218613702656 = true := by decide
theorem enc3 : UEnclose.EncIn 4 4609434218613702656 7 ∧ UEnclose.encV 4 4609434218613702656 = -1 := by
  refine ⟨⟨rfl, by omega, by omega, fin3, fun _ => ?_⟩, ?_⟩
  · rw [num3]; exact ⟨rfl, by decide⟩
  · unfold UEnclose.encV
    rw [num3]
    rfl
noncomputable def sp : Prop × List D := (True, [.s (.sc (.bool true))])
theorem spec (h : sp.1) : evalFn E Tryz.f35 cod [] = some sp.2 := by
  have hn : PIn (nrmD (-1) 0) := pin_nrm (inD_of (by omega) (by have := bl_neg bl_one; omega)) (by have := bl_neg bl_one; omega)
  refine start.trans ?_
  rw [fin1, cond_true, num1, red1, gP (by omega), vl, gP (by omega), gP ⟨by omega, enc3.1⟩, enc3.2]
  show vlet (isNeg (nrmD (-1) 0).1) _ = _
  rw [vl_dy, vl_dy]
  show gif _ (vlet (isNeg (nrmD (-1) 0).1) _) = _
  rw [gP (by omega), vl_dy, vl_dy, gP ⟨⟨dyok_of hn, dyok_of hn⟩, dyok_of hn, dyok_of hn⟩, vl, decide_eq_true rfl, decide_eq_true rfl]
  rfl

noncomputable def orc : Orc := orc0  sp
theorem fnok : FnOk Tryz.prog E 35 Tryz.f35 cod := fnOk ty_ok mixed (callsOk_of _ rfl (orcs_cons UReduce.ok (orcs_cons UExact.ok (orcs_cons UEnclose.ok (orcs_cons LSame.ok (orcs_cons LPoint.ok orcs_nil))))) (ext_ok)) Tryz.func35 rfl rfl rfl
theorem ok : OrcOk Tryz.prog base.glob 35 orc := fnok.ok0 spec
end LAwake
end Go.Proofs.YtknafopmgaolmaaGreatDoor.W

/- gnomon/binary.Widen -/
namespace Go.Proofs.YtknafopmgaolmaaGreatDoor.W
open Go Go.Proofs.YtknafopmgaolmaaGreatDoor.AI Go.Proofs.YtknafopmgaolmaaGreatDoor.M
namespace BWiden
noncomputable def E : Env := { ({ base with C := callsOf [(155, BTake.orc), (114, BShape.orc), (170, BClass.orc), (174, BMade.orc), (156, BInf.orc), (100, BParts.orc), (173, BJoin.orc)] }) with nt := 48, own := [13, 35, 45], keep := fun k => (tlook [] k).getD [], cut := tlook [] }
noncomputable def cod : Code := (Go.Proofs.Tryz.f115.body).getD .skip
theorem nok : namesOk E cod = true := by kernel_rfl
theorem start (a : Int) : evalFn E Go.Proofs.Tryz.f115 cod [D.s (S.sc (Value.int IntKind.u64 a))] = gif (((32 : Int) = (32 : Int) ∨ (32 : Int) = (64 : Int)) ∧ (0 : Int) ≤ a ∧ a < (18446744073709551616 : Int)) (bcase ((bif BTake.patB (32 : Int) a then (0 : Int) else (2 : Int)) != (0 : Int)) (some [D.s (S.sc (Value.int IntKind.u64 (0 : Int))), D.s (S.sc (Value.int IntKind.i64 (bif BTake.patB (32 : Int) a then (0 : Int) else (2 : Int))))]) (gif True (gif (BShape.Two ((32 : Int), (24 : Int), (-149 : Int), (2143289345 : Int))) (bcase (BClass.classV ((32 : Int), (24 : Int), (-149 : Int), (2143289345 : Int)) (bif BTake.patB (32 : Int) a then a % (2147483648 : Int) else (0 : Int)) == (4 : Int)) (some [D.s (S.sc (Value.int IntKind.u64 (9221120237041090561 : Int))), D.s (S.sc (Value.int IntKind.i64 (0 : Int)))]) (bcase (BClass.classV ((32 : Int), (24 : Int), (-149 : Int), (2143289345 : Int)) (bif BTake.patB (32 : Int) a then a % (2147483648 : Int) else (0 : Int)) == (3 : Int)) (gif (BShape.Two ((64 : Int), (53 : Int), (-1074 : Int), (9221120237041090561 : Int))) (gif (BShape.Two ((64 : Int), (53 : Int), (-1074 : Int), (9221120237041090561 : Int))) (some [D.s (S.sc (Value.int IntKind.u64 (bif BTake.patB (32 : Int) a && decide ((2147483648 : Int) ≤ a) then bitsI BinOp.or IntKind.u64 (9218868437227405312 : Int) (9223372036854775808 : Int) else (9218868437227405312 : Int)))), D.s (S.sc (Value.int IntKind.i64 (0 : Int)))]))) (gif (BShape.Two ((32 : Int), (24 : Int), (-149 : Int), (2143289345 : Int)) ∧ ((0 : Int) ≤ bif BTake.patB (32 : Int) a then a % (2147483648 : Int) else (0 : Int)) ∧ (bif BTake.patB (32 : Int) a then a % (2147483648 : Int) else (0 : Int)) < (9223372036854775808 : Int)) (gif (((64 : Int) = (32 : Int) ∨ (64 : Int) = (64 : Int)) ∧ ((0 : Int) ≤ BParts.manV ((32 : Int), (24 : Int), (-149 : Int), (2143289345 : Int)) (bif BTake.patB (32 : Int) a then a % (2147483648 : Int) else (0 : Int)) ∧ BParts.manV ((32 : Int), (24 : Int), (-149 : Int), (2143289345 : Int)) (bif BTake.patB (32 : Int) a then a % (2147483648 : Int) else (0 : Int)) < (18446744073709551616 : Int)) ∧ (-4000 : Int) ≤ BParts.expV ((32 : Int), (24 : Int), (-149 : Int), (2143289345 : Int)) (bif BTake.patB (32 : Int) a then a % (2147483648 : Int) else (0 : Int)) ∧ BParts.expV ((32 : Int), (24 : Int), (-149 : Int), (2143289345 : Int)) (bif BTake.patB (32 : Int) a then a % (2147483648 : Int) else (0 : Int)) ≤ (2900 : Int)) (some [D.s (S.sc (Value.int IntKind.u64 (BJoin.valJ (BShape.shp (64 : Int)) (BTake.patB (32 : Int) a && decide ((2147483648 : Int) ≤ a)) (BJoin.joinO (BShape.shp (64 : Int)) (BParts.manV ((BShape.shp (32 : Int)).fst, (BShape.shp (32 : Int)).snd.fst, (BShape.shp (32 : Int)).snd.snd.fst, (BShape.shp (32 : Int)).snd.snd.snd) (bif BTake.patB (32 : Int) a then a % BSign.signV (BShape.shp (32 : Int)) else (0 : Int))) (BParts.expV ((BShape.shp (32 : Int)).fst, (BShape.shp (32 : Int)).snd.fst, (BShape.shp (32 : Int)).snd.snd.fst, (BShape.shp (32 : Int)).snd.snd.snd) (bif BTake.patB (32 : Int) a then a % BSign.signV (BShape.shp (32 : Int)) else (0 : Int))))))), D.s (S.sc (Value.int IntKind.i64 (BJoin.errJ (BJoin.joinO (BShape.shp (64 : Int)) (BParts.manV ((BShape.shp (32 : Int)).fst, (BShape.shp (32 : Int)).snd.fst, (BShape.shp (32 : Int)).snd.snd.fst, (BShape.shp (32 : Int)).snd.snd.snd) (bif BTake.patB (32 : Int) a then a % BSign.signV (BShape.shp (32 : Int)) else (0 : Int))) (BParts.expV ((BShape.shp (32 : Int)).fst, (BShape.shp (32 : Int)).snd.fst, (BShape.shp (32 : Int)).snd.snd.fst, (BShape.shp (32 : Int)).snd.snd.snd) (bif BTake.patB (32 : Int) a then a % BSign.signV (BShape.shp (32 : Int)) else (0 : Int)))))))])))))))) := (evalFn_J rfl nok _).trans (by kernel_rfl)
-- stuck: 0
end BWiden
namespace BWiden
abbrev s32 : Int × Int × Int × Int := (32, 24, -149, 2143289345)
abbrev s64 : Int × Int × Int × Int := (64, 53, -1074, 9221120237041090561)
/-- Of a binary32 pattern the binary64 one. -/
def widO (b : Int) : Option Int := BJoin.joinO s64 (BParts.manV s32 (b % 2147483648)) (BParts.expV s32 (b % 2147483648))
def widV (b : Int) : Int := bif BTake.patB 32 b then (if BClass.classV s32 (b % 2147483648) = 4 then 9221120237041090561 else if BClass.classV s32 (b % 2147483648) = 3 then BJoin.sgnd s64 (decide (2147483648 ≤ b)) 9218868437227405312 else BJoin.valJ s64 (decide (2147483648 ≤ b)) (widO b)) else 0
def widE (b : Int) : Int := bif BTake.patB 32 b then (if BClass.classV s32 (b % 2147483648) = 4 then 0 else if BClass.classV s32 (b % 2147483648) = 3 then 0 else BJoin.errJ (widO b)) else 2
noncomputable def sp (b : Int) : Prop × List D := (0 ≤ b ∧ b < 18446744073709551616, [.s (.sc (.int .u64 (widV b))), .s (.sc (.int .i64 (widE b)))])
theorem spec (b : Int) (h : (sp b).1) : evalFn E Tryz.f115 cod [(pN .u64).put b] = some (sp b).2 := by
  refine (start b).trans ((gP ⟨.inl rfl, h⟩).trans ?_)
  unfold sp widV widE
  try dsimp only
  cases hp : BTake.patB 32 b with
  | false => rfl
  | true =>
    try dsimp only [cond_true, Bool.true_and]
    rw [bN_neg rfl, gP trivial, gP BShape.two32]
    have hn0 : 0 ≤ b % 2147483648 := by omega
    by_cases c4 : BClass.classV s32 (b % 2147483648) = 4
    · rw [bE_pos c4, if_pos c4, if_pos c4]
    · rw [bE_neg c4, if_neg c4, if_neg c4]
      by_cases c3 : BClass.classV s32 (b % 2147483648) = 3
      · rw [bE_pos c3, if_pos c3, if_pos c3, gP BShape.two64, gP BShape.two64]
        rw [← BJoin.or_sign BShape.two64 (by show (0 : Int) ≤ 9218868437227405312; omega) (by show (9218868437227405312 : Int) < 9223372036854775808; omega)]
        rfl
      · have hf : b % 2147483648 < BInf.infV s32 := by
          unfold BClass.classV at c3 c4
          split at c3
          · rename_i h0; show _ < (2139095040 : Int); omega
          · split at c3
            · rename_i h0 h1; have : BHidden.hidV s32 = 8388608 := rfl; show _ < (2139095040 : Int); omega
            · split at c3
              · assumption
              · split at c3
                · exact (c3 rfl).elim
                · rename_i h0 h1 h2 h3
                  rw [if_neg h0, if_neg h1, if_neg h2, if_neg h3] at c4
                  exact (c4 rfl).elim
        have hm := BValue.man_lt BShape.two32 hn0
        have hx := BValue.exp_lt BShape.two32 hn0 hf
        rw [bE_neg c3, if_neg c3, if_neg c3, gP ⟨BShape.two32, by omega, by omega⟩, gP ⟨.inr rfl, ⟨hm.1, by omega⟩, by omega, by omega⟩]
        rfl

noncomputable def orc : Orc := orc1 (pN .u64) sp
theorem fnok : FnOk Tryz.prog E 115 Tryz.f115 cod := fnOk ty_ok mixed (callsOk_of _ rfl (orcs_cons BTake.ok (orcs_cons BShape.ok (orcs_cons BClass.ok (orcs_cons BMade.ok (orcs_cons BInf.ok (orcs_cons BParts.ok (orcs_cons BJoin.ok orcs_nil))))))) (ext_ok)) Tryz.func115 rfl rfl rfl
theorem ok : OrcOk Tryz.prog base.glob 115 orc := fnok.ok1 rfl spec
end BWiden
end Go.Proofs.YtknafopmgaolmaaGreatDoor.W

/- gnomon/round.of -/
namespace Go.Proofs.YtknafopmgaolmaaGreatDoor.W
open Go Go.Proofs.YtknafopmgaolmaaGreatDoor.AI Go.Proofs.YtknafopmgaolmaaGreatDoor.M
namespace ROf
noncomputable def E : Env := { (base) with nt := 11, own := [], keep := fun k => (tlook [] k).getD [], cut := tlook [] }
noncomputable def cod : Code := (Go.Proofs.Tryz.f106.body).getD .skip
theorem nok : namesOk E cod = true := by kernel_rfl
theorem start (a : Int) : evalFn E Go.Proofs.Tryz.f106 cod [D.s (S.sc (Value.int IntKind.i64 a))] = bcase (a == (32 : Int)) (some [D.agg [S.sc (Value.int IntKind.i64 (24 : Int)), S.sc (Value.int IntKind.i64 (-149 : Int)), S.sc (Value.int IntKind.i64 (31 : Int))]]) (bcase (a == (64 : Int)) (some [D.agg [S.sc (Value.int IntKind.i64 (53 : Int)), S.sc (Value.int IntKind.i64 (-1074 : Int)), S.sc (Value.int IntKind.i64 (63 : Int))]]) (some [D.agg [S.sc (Value.int IntKind.i64 (0 : Int)), S.sc (Value.int IntKind.i64 (0 : Int)), S.sc (Value.int IntKind.i64 (0 : Int))]])) := (evalFn_J rfl nok _).trans (by kernel_rfl)
-- stuck: 0
end ROf
namespace ROf
/-- The widths of a format: mantissa, least place, sign's place. -/
def ofW (f : Int) : Int × Int × Int := if f = 32 then (24, -149, 31) else if f = 64 then (53, -1074, 63) else (0, 0, 0)
noncomputable def sp (f : Int) : Prop × List D := (True, [.agg [.sc (.int .i64 (ofW f).1), .sc (.int .i64 (ofW f).2.1), .sc (.int .i64 (ofW f).2.2)]])
theorem spec (f : Int) (h : (sp f).1) : evalFn E Tryz.f106 cod [(pN .i64).put f] = some (sp f).2 := by
  refine (start f).trans ?_
  unfold sp ofW
  by_cases h1 : f = 32
  · rw [bE_pos h1, if_pos h1]
  · rw [bE_neg h1, if_neg h1]
    by_cases h2 : f = 64
    · rw [bE_pos h2, if_pos h2]
    · rw [bE_neg h2, if_neg h2]

noncomputable def orc : Orc := orc1 (pN .i64) sp
theorem fnok : FnOk Tryz.prog E 106 Tryz.f106 cod := fnOk ty_ok mixed (callsOk_of _ rfl orcs_nil (ext_ok)) Tryz.func106 rfl rfl rfl
theorem ok : OrcOk Tryz.prog base.glob 106 orc := fnok.ok1 rfl spec
end ROf
end Go.Proofs.YtknafopmgaolmaaGreatDoor.W

/- (gnomon/round.widths).infinity -/
namespace Go.Proofs.YtknafopmgaolmaaGreatDoor.W
open Go Go.Proofs.YtknafopmgaolmaaGreatDoor.AI Go.Proofs.YtknafopmgaolmaaGreatDoor.M
namespace RInf
noncomputable def E : Env := { (base) with nt := 11, own := [], keep := fun k => (tlook [] k).getD [], cut := tlook [] }
noncomputable def cod : Code := (Go.Proofs.Tryz.f165.body).getD .skip
theorem nok : namesOk E cod = true := by kernel_rfl
theorem start (a1 : Int) (a2 : Int) (a3 : Int) : evalFn E Go.Proofs.Tryz.f165 cod [D.agg [S.sc (Value.int IntKind.i64 a1), S.sc (Value.int IntKind.i64 a2), S.sc (Value.int IntKind.i64 a3)]] = if a3 < (0 : Int) then none else if IntKind.i64.wrap (a1 - (1 : Int)) < (0 : Int) then none else some [D.s (S.sc (Value.int IntKind.u64 (IntKind.u64.wrap (IntKind.u64.wrap ((1 : Int) * (↑((2 : Nat) ^ min a3.toNat (64 : Nat)) : Int)) - IntKind.u64.wrap ((1 : Int) * (↑((2 : Nat) ^ min (IntKind.i64.wrap (a1 - (1 : Int))).toNat (64 : Nat)) : Int))))))] := (evalFn_J rfl nok _).trans (by kernel_rfl)
-- stuck: 0
end RInf
namespace RInf
/-- One of the two formats. -/
def Two (w : Int × Int × Int) : Prop := w = (24, -149, 31) ∨ w = (53, -1074, 63)
def infW (w : Int × Int × Int) : Int := if w.1 = 24 then 2139095040 else 9218868437227405312
noncomputable def sp (w : Int × Int × Int) : Prop × List D := (Two w, [.s (.sc (.int .u64 (infW w)))])
theorem spec (w : Int × Int × Int) (h : (sp w).1) : evalFn E Tryz.f165 cod [(pG (.pair (sN .i64) (.pair (sN .i64) (sN .i64)))).put w] = some (sp w).2 := by
  refine (start w.1 w.2.1 w.2.2).trans ?_
  rcases (show Two w from h) with rfl | rfl <;> rfl

noncomputable def orc : Orc := orc1 (pG (.pair (sN .i64) (.pair (sN .i64) (sN .i64)))) sp
theorem fnok : FnOk Tryz.prog E 165 Tryz.f165 cod := fnOk ty_ok mixed (callsOk_of _ rfl orcs_nil (ext_ok)) Tryz.func165 rfl rfl rfl
theorem ok : OrcOk Tryz.prog base.glob 165 orc := fnok.ok1 rfl spec
end RInf
end Go.Proofs.YtknafopmgaolmaaGreatDoor.W

/- (gnomon/round.widths).signed -/
namespace Go.Proofs.YtknafopmgaolmaaGreatDoor.W
open Go Go.Proofs.YtknafopmgaolmaaGreatDoor.AI Go.Proofs.YtknafopmgaolmaaGreatDoor.M
namespace RSigned
noncomputable def E : Env := { (base) with nt := 14, own := [], keep := fun k => (tlook [] k).getD [], cut := tlook [] }
noncomputable def cod : Code := (Go.Proofs.Tryz.f107.body).getD .skip
theorem nok : namesOk E cod = true := by kernel_rfl
theorem start (a1 : Int) (a2 : Int) (a3 : Int) (b : Bool) (c : Int) : evalFn E Go.Proofs.Tryz.f107 cod [D.agg [S.sc (Value.int IntKind.i64 a1), S.sc (Value.int IntKind.i64 a2), S.sc (Value.int IntKind.i64 a3)], D.s (S.sc (Value.bool b)), D.s (S.sc (Value.int IntKind.u64 c))] = bcase b (if a3 < (0 : Int) then none else some [D.s (S.sc (Value.int IntKind.u64 (bitsI BinOp.or IntKind.u64 c (IntKind.u64.wrap ((1 : Int) * (↑((2 : Nat) ^ min a3.toNat (64 : Nat)) : Int))))))]) (some [D.s (S.sc (Value.int IntKind.u64 c))]) := (evalFn_J rfl nok _).trans (by kernel_rfl)
-- stuck: 0
end RSigned
namespace RSigned
def sgW (w : Int × Int × Int) (b : Bool) (c : Int) : Int := bif b then c + (if w.1 = 24 then 2147483648 else 9223372036854775808) else c
noncomputable def sp (w : Int × Int × Int) (b : Bool) (c : Int) : Prop × List D := (RInf.Two w ∧ 0 ≤ c ∧ c ≤ RInf.infW w, [.s (.sc (.int .u64 (sgW w b c)))])
theorem spec (w : Int × Int × Int) (b : Bool) (c : Int) (h : (sp w b c).1) : evalFn E Tryz.f107 cod [(pG (.pair (sN .i64) (.pair (sN .i64) (sN .i64)))).put w, pB.put b, (pN .u64).put c] = some (sp w b c).2 := by
  obtain ⟨ht, h0, h1⟩ := h
  refine (start w.1 w.2.1 w.2.2 b c).trans ?_
  unfold sp sgW
  obtain ⟨n, rfl⟩ := Int.eq_ofNat_of_zero_le h0
  rcases ht with rfl | rfl
  · have h1 : (n : Int) ≤ 2139095040 := h1
    have e := Nat.two_pow_add_eq_or_of_lt (i := 31) (b := n) (by omega) 1
    cases b with
    | false => rfl
    | true =>
      rw [bT, if_neg (by decide)]
      show some [D.s (.sc (.int .u64 (bitsI .or .u64 (n : Int) 2147483648)))] = _
      rw [or64 (by omega) (by omega) (by omega) (by omega), Int.toNat_natCast, Nat.or_comm]
      rw [Nat.mul_one] at e
      rw [show (2147483648 : Int).toNat = 2 ^ 31 from rfl, ← e]
      show some [D.s (.sc (.int .u64 ((2 ^ 31 + n : Nat) : Int)))] = some [D.s (.sc (.int .u64 ((n : Int) + 2147483648)))]
      rw [Int.natCast_add, Int.add_comm]; rfl
  · have h1 : (n : Int) ≤ 9218868437227405312 := h1
    have e := Nat.two_pow_add_eq_or_of_lt (i := 63) (b := n) (by omega) 1
    cases b with
    | false => rfl
    | true =>
      rw [bT, if_neg (by decide)]
      show some [D.s (.sc (.int .u64 (bitsI .or .u64 (n : Int) 9223372036854775808)))] = _
      rw [or64 (by omega) (by omega) (by omega) (by omega), Int.toNat_natCast, Nat.or_comm]
      rw [Nat.mul_one] at e
      rw [show (9223372036854775808 : Int).toNat = 2 ^ 63 from rfl, ← e]
      show some [D.s (.sc (.int .u64 ((2 ^ 63 + n : Nat) : Int)))] = some [D.s (.sc (.int .u64 ((n : Int) + 9223372036854775808)))]
      rw [Int.natCast_add, Int.add_comm]; rfl

noncomputable def orc : Orc := orc3 (pG (.pair (sN .i64) (.pair (sN .i64) (sN .i64)))) pB (pN .u64) sp
theorem fnok : FnOk Tryz.prog E 107 Tryz.f107 cod := fnOk ty_ok mixed (callsOk_of _ rfl orcs_nil (ext_ok)) Tryz.func107 rfl rfl rfl
theorem ok : OrcOk Tryz.prog base.glob 107 orc := fnok.ok3 rfl spec
end RSigned
end Go.Proofs.YtknafopmgaolmaaGreatDoor.W

/- gnomon/num.NearShr -/
namespace Go.Proofs.YtknafopmgaolmaaGreatDoor.W
open Go Go.Proofs.YtknafopmgaolmaaGreatDoor.AI Go.Proofs.YtknafopmgaolmaaGreatDoor.M
namespace MNearShr
noncomputable def E : Env := { ({ base with C := callsOf [(210, MShr.orc)] }) with nt := 11, own := [8], keep := fun k => (tlook [] k).getD [], cut := tlook [] }
noncomputable def cod : Code := (Go.Proofs.Tryz.f166.body).getD .skip
theorem nok : namesOk E cod = true := by kernel_rfl
theorem start (a1 : Bool) (a2 : List Int) (b : Int) : evalFn E Go.Proofs.Tryz.f166 cod [D.agg [S.sc (Value.bool a1), S.ints IntKind.u64 a2], D.s (S.sc (Value.int IntKind.i64 b))] = gif (Wok (a1, a2) ∧ (0 : Int) ≤ b ∧ b < (4611686018427387904 : Int)) (some [D.agg [S.sc (Value.bool (isNeg (bif fit (MShr.shrN (2 : Int) a1 (M6.val a2) b) then zs a1 (MShr.shrN (2 : Int) a1 (M6.val a2) b) else (0 : Int)))), S.ints IntKind.u64 (M6.dg (bif fit (MShr.shrN (2 : Int) a1 (M6.val a2) b) then zs a1 (MShr.shrN (2 : Int) a1 (M6.val a2) b) else (0 : Int)).natAbs)], D.s (S.sc (Value.int IntKind.i64 (bif fit (MShr.shrN (2 : Int) a1 (M6.val a2) b) then (0 : Int) else (5 : Int))))]) := (evalFn_J rfl nok _).trans (by kernel_rfl)
-- stuck: 0
end MNearShr
namespace MNearShr
/-- To the nearest. -/
def nearN (v : Nat) (n : Int) : Nat := MShr.shrN 2 false v n
theorem near_eq (p : Bool) (v : Nat) (n : Int) : MShr.shrN 2 p v n = nearN v n := rfl
theorem small {v : Nat} {n : Int} (h : 0 ≤ n) (hb : bl v ≤ 524288) : fit (nearN v n) = true := by
  refine decide_eq_true (Nat.le_trans (bl_mono ?_) hb)
  unfold nearN MShr.shrN MMore.moreB
  rw [show ((2 : Int) == 0) = false from rfl, show ((2 : Int) == 1) = false from rfl, cond_false, cond_false]
  unfold MShr.halfV
  by_cases hc : 0 ≤ n - 1 ∧ v / 2 ^ (n - 1).toNat % 2 = 1
  · have hv : v ≠ 0 := fun hz => by rw [hz, Nat.zero_div] at hc; omega
    have hn : 2 ^ n.toNat = 2 ^ (n - 1).toNat * 2 := by rw [← Nat.pow_succ]; congr 1; omega
    have hp := Nat.pow_pos (n := (n - 1).toNat) (show 0 < 2 by omega)
    have h1 : v / 2 ^ n.toNat ≤ v / 2 := Nat.div_le_div_left (by omega) (by omega)
    have h2 : ∀ b : Bool, (bif b then (1 : Nat) else 0) ≤ 1 := by intro b; cases b <;> decide
    by_cases h1v : v = 1
    · subst h1v
      have hp1 : 2 ^ (n - 1).toNat = 1 := by
        rcases Nat.lt_or_ge 1 (2 ^ (n - 1).toNat) with h | h
        · rw [Nat.div_eq_of_lt h] at hc; omega
        · omega
      have ht : tz 1 = 0 := by simp [tz]
      have hn1 : n = 1 := by
        rcases Nat.eq_zero_or_pos (n - 1).toNat with h | h
        · omega
        · have := Nat.pow_le_pow_right (n := 2) (by omega) h; omega
      subst hn1
      rw [ht]
      decide
    · exact Nat.le_trans (Nat.add_le_add h1 (h2 _)) (by omega)
  · have : (decide (0 ≤ n - 1) && decide (v / 2 ^ (n - 1).toNat % 2 = 1)) = false := by
      rw [Bool.and_eq_false_iff]
      by_cases h0 : 0 ≤ n - 1
      · exact .inr (decide_eq_false fun h => hc ⟨h0, h⟩)
      · exact .inl (decide_eq_false h0)
    rw [this]
    exact Nat.le_trans (Nat.le_of_eq (Nat.add_zero _)) (Nat.div_le_self _ _)
noncomputable def sp (x : Bool × List Int) (n : Int) : Prop × List D := (Wok x ∧ 0 ≤ n ∧ n < 4611686018427387904, [wD (zs x.1 (nearN (M6.val x.2) n)), .s (.sc (.int .i64 0))])
theorem spec (x : Bool × List Int) (n : Int) (h : (sp x n).1) : evalFn E Tryz.f166 cod [(pG (.pair sB (sI .u64))).put x, (pN .i64).put n] = some (sp x n).2 := by
  have h' := h
  obtain ⟨hx, h0, h1⟩ := h
  refine (start x.1 x.2 n).trans ((gP h').trans ?_)
  unfold sp
  try dsimp only
  rw [near_eq, small h0 hx.bl]
  rfl

noncomputable def orc : Orc := orc2 (pG (.pair sB (sI .u64))) (pN .i64) sp
theorem fnok : FnOk Tryz.prog E 166 Tryz.f166 cod := fnOk ty_ok mixed (callsOk_of _ rfl (orcs_cons MShr.ok orcs_nil) (ext_ok)) Tryz.func166 rfl rfl rfl
theorem ok : OrcOk Tryz.prog base.glob 166 orc := fnok.ok2 rfl spec
end MNearShr
end Go.Proofs.YtknafopmgaolmaaGreatDoor.W

/- (gnomon/round.widths).size -/
namespace Go.Proofs.YtknafopmgaolmaaGreatDoor.W
open Go Go.Proofs.YtknafopmgaolmaaGreatDoor.AI Go.Proofs.YtknafopmgaolmaaGreatDoor.M
namespace RSize
noncomputable def E : Env := { ({ base with C := callsOf [(164, NBits.orc), (165, RInf.orc), (166, MNearShr.orc), (104, MShl.orc)] }) with nt := 71, own := [19], keep := fun k => (tlook [] k).getD [], cut := tlook [(9, [3, 8, 9]), (12, [3, 8, 10])] }
noncomputable def cod : Code := (Go.Proofs.Tryz.f108.body).getD .skip
theorem nok : namesOk E cod = true := by kernel_rfl
noncomputable def J9 (x0 : Int) (x1 : Int) (x2 : Int) (x3 : Int) (b4 : Bool) (xs5 : List Int) : Option (List D) := ctO E Go.Proofs.Tryz.f108 cod 9 [(A.v (V.one (L.ptr (0 : Nat) (0 : Nat))), some { e := (141 : Nat), cont := Cont.cells [S.sc (Value.int IntKind.i64 x0), S.sc (Value.int IntKind.i64 x1), S.sc (Value.int IntKind.i64 x2)] }), (A.v (V.one (L.s (S.sc (Value.int IntKind.i64 x3)))), none), (A.v (V.one (L.ptr (2 : Nat) (0 : Nat))), some { e := (33 : Nat), cont := Cont.cells [S.sc (Value.bool b4), S.ints IntKind.u64 xs5] })]
noncomputable def J12 (x0 : Int) (x1 : Int) (x2 : Int) (x3 : Int) (x4 : Int) : Option (List D) := ctO E Go.Proofs.Tryz.f108 cod 12 [(A.v (V.one (L.ptr (0 : Nat) (0 : Nat))), some { e := (141 : Nat), cont := Cont.cells [S.sc (Value.int IntKind.i64 x0), S.sc (Value.int IntKind.i64 x1), S.sc (Value.int IntKind.i64 x2)] }), (A.v (V.one (L.s (S.sc (Value.int IntKind.i64 x3)))), none), (A.v (V.one (L.s (S.sc (Value.int IntKind.u64 x4)))), none)]
theorem start (a1 : Int) (a2 : Int) (a3 : Int) (b : List Int) (c : Int) : evalFn E Go.Proofs.Tryz.f108 cod [D.agg [S.sc (Value.int IntKind.i64 a1), S.sc (Value.int IntKind.i64 a2), S.sc (Value.int IntKind.i64 a3)], D.s (S.ints IntKind.u64 b), D.s (S.sc (Value.int IntKind.i64 c))] = gif (M6.Dig b ∧ b.length ≤ (1099511627776 : Nat))
  (bcase (decide ((1100 : Int) < IntKind.i64.wrap (IntKind.i64.wrap (c + (↑(bl (M6.val b)) : Int)) - (1 : Int)))) (gif (RInf.Two (a1, a2, a3)) (vlet (RInf.infW (a1, a2, a3)) fun y0 => some [D.s (S.sc (Value.int IntKind.u64 y0))]))
    (bcase (decide (c ≤ if a2 > IntKind.i64.wrap (IntKind.i64.wrap (IntKind.i64.wrap (IntKind.i64.wrap (c + (↑(bl (M6.val b)) : Int)) - (1 : Int)) - a1) + (1 : Int)) then a2 else IntKind.i64.wrap (IntKind.i64.wrap (IntKind.i64.wrap (IntKind.i64.wrap (c + (↑(bl (M6.val b)) : Int)) - (1 : Int)) - a1) + (1 : Int)))) (gif (Wok (false, b) ∧ (0 : Int) ≤ IntKind.i64.wrap ((if a2 > IntKind.i64.wrap (IntKind.i64.wrap (IntKind.i64.wrap (IntKind.i64.wrap (c + (↑(bl (M6.val b)) : Int)) - (1 : Int)) - a1) + (1 : Int)) then a2 else IntKind.i64.wrap (IntKind.i64.wrap (IntKind.i64.wrap (IntKind.i64.wrap (c + (↑(bl (M6.val b)) : Int)) - (1 : Int)) - a1) + (1 : Int))) - c) ∧ IntKind.i64.wrap ((if a2 > IntKind.i64.wrap (IntKind.i64.wrap (IntKind.i64.wrap (IntKind.i64.wrap (c + (↑(bl (M6.val b)) : Int)) - (1 : Int)) - a1) + (1 : Int)) then a2 else IntKind.i64.wrap (IntKind.i64.wrap (IntKind.i64.wrap (IntKind.i64.wrap (c + (↑(bl (M6.val b)) : Int)) - (1 : Int)) - a1) + (1 : Int))) - c) < (4611686018427387904 : Int)) (vlet (isNeg (zs false (MNearShr.nearN (M6.val b) (IntKind.i64.wrap ((if a2 > IntKind.i64.wrap (IntKind.i64.wrap (IntKind.i64.wrap (IntKind.i64.wrap (c + (↑(bl (M6.val b)) : Int)) - (1 : Int)) - a1) + (1 : Int)) then a2 else IntKind.i64.wrap (IntKind.i64.wrap (IntKind.i64.wrap (IntKind.i64.wrap (c + (↑(bl (M6.val b)) : Int)) - (1 : Int)) - a1) + (1 : Int))) - c))))) fun y1 => vlet (M6.dg (zs false (MNearShr.nearN (M6.val b) (IntKind.i64.wrap ((if a2 > IntKind.i64.wrap (IntKind.i64.wrap (IntKind.i64.wrap (IntKind.i64.wrap (c + (↑(bl (M6.val b)) : Int)) - (1 : Int)) - a1) + (1 : Int)) then a2 else IntKind.i64.wrap (IntKind.i64.wrap (IntKind.i64.wrap (IntKind.i64.wrap (c + (↑(bl (M6.val b)) : Int)) - (1 : Int)) - a1) + (1 : Int))) - c)))).natAbs) fun y2 => RSize.J9 a1 a2 a3 (if a2 > IntKind.i64.wrap (IntKind.i64.wrap (IntKind.i64.wrap (IntKind.i64.wrap (c + (↑(bl (M6.val b)) : Int)) - (1 : Int)) - a1) + (1 : Int)) then a2 else IntKind.i64.wrap (IntKind.i64.wrap (IntKind.i64.wrap (IntKind.i64.wrap (c + (↑(bl (M6.val b)) : Int)) - (1 : Int)) - a1) + (1 : Int))) y1 y2))
      (gif (Wok (false, b) ∧ (0 : Int) ≤ IntKind.i64.wrap (c - if a2 > IntKind.i64.wrap (IntKind.i64.wrap (IntKind.i64.wrap (IntKind.i64.wrap (c + (↑(bl (M6.val b)) : Int)) - (1 : Int)) - a1) + (1 : Int)) then a2 else IntKind.i64.wrap (IntKind.i64.wrap (IntKind.i64.wrap (IntKind.i64.wrap (c + (↑(bl (M6.val b)) : Int)) - (1 : Int)) - a1) + (1 : Int))) ∧ IntKind.i64.wrap (c - if a2 > IntKind.i64.wrap (IntKind.i64.wrap (IntKind.i64.wrap (IntKind.i64.wrap (c + (↑(bl (M6.val b)) : Int)) - (1 : Int)) - a1) + (1 : Int)) then a2 else IntKind.i64.wrap (IntKind.i64.wrap (IntKind.i64.wrap (IntKind.i64.wrap (c + (↑(bl (M6.val b)) : Int)) - (1 : Int)) - a1) + (1 : Int))) < (4611686018427387904 : Int)) (vlet (isNeg (bif fit (M6.val b * (2 : Nat) ^ (IntKind.i64.wrap (c - if a2 > IntKind.i64.wrap (IntKind.i64.wrap (IntKind.i64.wrap (IntKind.i64.wrap (c + (↑(bl (M6.val b)) : Int)) - (1 : Int)) - a1) + (1 : Int)) then a2 else IntKind.i64.wrap (IntKind.i64.wrap (IntKind.i64.wrap (IntKind.i64.wrap (c + (↑(bl (M6.val b)) : Int)) - (1 : Int)) - a1) + (1 : Int)))).toNat) then wv (false, b) * (↑((2 : Nat) ^ (IntKind.i64.wrap (c - if a2 > IntKind.i64.wrap (IntKind.i64.wrap (IntKind.i64.wrap (IntKind.i64.wrap (c + (↑(bl (M6.val b)) : Int)) - (1 : Int)) - a1) + (1 : Int)) then a2 else IntKind.i64.wrap (IntKind.i64.wrap (IntKind.i64.wrap (IntKind.i64.wrap (c + (↑(bl (M6.val b)) : Int)) - (1 : Int)) - a1) + (1 : Int)))).toNat) : Int) else (0 : Int))) fun y3 => vlet (M6.dg (bif fit (M6.val b * (2 : Nat) ^ (IntKind.i64.wrap (c - if a2 > IntKind.i64.wrap (IntKind.i64.wrap (IntKind.i64.wrap (IntKind.i64.wrap (c + (↑(bl (M6.val b)) : Int)) - (1 : Int)) - a1) + (1 : Int)) then a2 else IntKind.i64.wrap (IntKind.i64.wrap (IntKind.i64.wrap (IntKind.i64.wrap (c + (↑(bl (M6.val b)) : Int)) - (1 : Int)) - a1) + (1 : Int)))).toNat) then wv (false, b) * (↑((2 : Nat) ^ (IntKind.i64.wrap (c - if a2 > IntKind.i64.wrap (IntKind.i64.wrap (IntKind.i64.wrap (IntKind.i64.wrap (c + (↑(bl (M6.val b)) : Int)) - (1 : Int)) - a1) + (1 : Int)) then a2 else IntKind.i64.wrap (IntKind.i64.wrap (IntKind.i64.wrap (IntKind.i64.wrap (c + (↑(bl (M6.val b)) : Int)) - (1 : Int)) - a1) + (1 : Int)))).toNat) : Int) else (0 : Int)).natAbs) fun y4 => RSize.J9 a1 a2 a3 (if a2 > IntKind.i64.wrap (IntKind.i64.wrap (IntKind.i64.wrap (IntKind.i64.wrap (c + (↑(bl (M6.val b)) : Int)) - (1 : Int)) - a1) + (1 : Int)) then a2 else IntKind.i64.wrap (IntKind.i64.wrap (IntKind.i64.wrap (IntKind.i64.wrap (c + (↑(bl (M6.val b)) : Int)) - (1 : Int)) - a1) + (1 : Int))) y3 y4)))) := (evalFn_J rfl nok _).trans (by kernel_rfl)
theorem J9_eq (x0 : Int) (x1 : Int) (x2 : Int) (x3 : Int) (b4 : Bool) (xs5 : List Int) : J9 x0 x1 x2 x3 b4 xs5 = bcase (decide ((0 : Int) < (↑xs5.length : Int))) (if (0 : Int) ≤ (0 : Int) ∧ (0 : Int) < (↑xs5.length : Int) then RSize.J12 x0 x1 x2 x3 (xs5.getD (0 : Nat) (0 : Int)) else none) (RSize.J12 x0 x1 x2 x3 (0 : Int)) := (cutAt_J rfl nok 9 _).trans (by kernel_rfl)
theorem J12_eq (x0 : Int) (x1 : Int) (x2 : Int) (x3 : Int) (x4 : Int) : J12 x0 x1 x2 x3 x4 = if IntKind.i64.wrap (x0 - (1 : Int)) < (0 : Int) then none else gif (RInf.Two (x0, x1, x2)) (vlet (RInf.infW (x0, x1, x2)) fun y6 => some [D.s (S.sc (Value.int IntKind.u64 (if y6 < IntKind.u64.wrap (IntKind.u64.wrap (IntKind.u64.wrap (IntKind.i64.wrap (x3 - x1)) * (↑((2 : Nat) ^ min (IntKind.i64.wrap (x0 - (1 : Int))).toNat (64 : Nat)) : Int)) + x4) then y6 else IntKind.u64.wrap (IntKind.u64.wrap (IntKind.u64.wrap (IntKind.i64.wrap (x3 - x1)) * (↑((2 : Nat) ^ min (IntKind.i64.wrap (x0 - (1 : Int))).toNat (64 : Nat)) : Int)) + x4))))]) := (cutAt_J rfl nok 12 _).trans (by kernel_rfl)
-- stuck: 0
end RSize
namespace RSize
/-- The exponent of the last place. -/
def unitW (w : Int × Int × Int) (v : Nat) (e : Int) : Int := if w.2.1 > e + (bl v : Nat) - 1 - w.1 + 1 then w.2.1 else e + (bl v : Nat) - 1 - w.1 + 1
/-- The units. -/
def unitsW (w : Int × Int × Int) (v : Nat) (e : Int) : Nat := if e ≤ unitW w v e then MNearShr.nearN v (unitW w v e - e) else v * 2 ^ (e - unitW w v e).toNat
def sizeW (w : Int × Int × Int) (v : Nat) (e : Int) : Int := if 1100 < e + (bl v : Nat) - 1 then RInf.infW w else (if RInf.infW w < (unitW w v e - w.2.1) * ((2 ^ (w.1 - 1).toNat : Nat) : Int) + (unitsW w v e : Nat) then RInf.infW w else (unitW w v e - w.2.1) * ((2 ^ (w.1 - 1).toNat : Nat) : Int) + (unitsW w v e : Nat))
theorem near_le (v : Nat) (n : Int) : MNearShr.nearN v n ≤ v / 2 ^ n.toNat + 1 := by
  unfold MNearShr.nearN MShr.shrN
  generalize MMore.moreB _ _ _ _ _ = b
  cases b
  · exact Nat.le_succ _
  · exact Nat.le_refl _
theorem units_le {w : Int × Int × Int} (h : RInf.Two w) {v : Nat} (e : Int) : unitsW w v e ≤ 2 ^ 53 := by
  have hm : w.1 ≤ 53 := by rcases h with rfl | rfl <;> decide
  have hm0 : 1 ≤ w.1 := by rcases h with rfl | rfl <;> decide
  have hu : e + (bl v : Nat) - 1 - w.1 + 1 ≤ unitW w v e := by unfold unitW; split <;> omega
  have hv := lt_bl v
  unfold unitsW
  split
  · rename_i he
    refine Nat.le_trans (near_le _ _) ?_
    have : v / 2 ^ (unitW w v e - e).toNat < 2 ^ 53 := by
      apply Nat.div_lt_of_lt_mul
      rw [← Nat.pow_add]
      exact Nat.lt_of_lt_of_le hv (Nat.pow_le_pow_right (by omega) (by omega))
    omega
  · rename_i he
    have h1 : v * 2 ^ (e - unitW w v e).toNat ≤ 2 ^ bl v * 2 ^ (e - unitW w v e).toNat := Nat.mul_le_mul_right _ (Nat.le_of_lt hv)
    rw [← Nat.pow_add] at h1
    exact Nat.le_trans h1 (Nat.pow_le_pow_right (by omega) (by omega))
noncomputable def sp (w : Int × Int × Int) (b : List Int) (e : Int) : Prop × List D := (RInf.Two w ∧ M6.Nrm b ∧ M6.val b ≠ 0 ∧ b.length ≤ 8192 ∧ -2000000 ≤ e ∧ e ≤ 2000000, [.s (.sc (.int .u64 (sizeW w (M6.val b) e)))])
theorem spec (w : Int × Int × Int) (b : List Int) (e : Int) (h : (sp w b e).1) : evalFn E Tryz.f108 cod [(pG (.pair (sN .i64) (.pair (sN .i64) (sN .i64)))).put w, (pI .u64).put b, (pN .i64).put e] = some (sp w b e).2 := by
  obtain ⟨ht, hn, hv, hl, he1, he2⟩ := h
  have hb := bl6_len hn.dig hl
  have hm : w.1 = 24 ∨ w.1 = 53 := by rcases ht with rfl | rfl <;> decide
  have hlz : -1074 ≤ w.2.1 ∧ w.2.1 ≤ -149 := by rcases ht with rfl | rfl <;> decide
  refine (start w.1 w.2.1 w.2.2 b e).trans ?_
  have w1 : IntKind.i64.wrap (IntKind.i64.wrap (e + ((bl (M6.val b) : Nat) : Int)) - 1) = e + ((bl (M6.val b) : Nat) : Int) - 1 := by
    rw [wrap_i64 (n := e + _) (by omega) (by omega), wrap_i64 (by omega) (by omega)]
  have w2 : IntKind.i64.wrap (IntKind.i64.wrap (e + ((bl (M6.val b) : Nat) : Int) - 1 - w.1) + 1) = e + ((bl (M6.val b) : Nat) : Int) - 1 - w.1 + 1 := by
    rw [wrap_i64 (n := e + ((bl (M6.val b) : Nat) : Int) - 1 - w.1) (by omega) (by omega), wrap_i64 (by omega) (by omega)]
  have hok : Wok (false, b) := ⟨hn, fun h => (by cases h), hl⟩
  have hu : (if w.2.1 > e + ((bl (M6.val b) : Nat) : Int) - 1 - w.1 + 1 then w.2.1 else e + ((bl (M6.val b) : Nat) : Int) - 1 - w.1 + 1) = unitW w (M6.val b) e := rfl
  unfold sp sizeW
  try dsimp only
  rw [gP ⟨hn.dig, by omega⟩, w1, w2, hu]
  have hub : unitW w (M6.val b) e ≤ 3000000 ∧ -3000000 ≤ unitW w (M6.val b) e := by unfold unitW; split <;> omega
  by_cases hc : 1100 < e + ((bl (M6.val b) : Nat) : Int) - 1
  · rw [bD_pos hc, if_pos hc, gP ht]
    simp only [vlet_eq]
  · rw [bD_neg hc, if_neg hc]
    have hunits := units_le ht (v := M6.val b) e
    have hub2 : w.2.1 ≤ unitW w (M6.val b) e ∧ unitW w (M6.val b) e - w.2.1 ≤ 2122 ∧ (w.1 = 24 → unitW w (M6.val b) e - w.2.1 ≤ 2122) := by
      unfold unitW
      rcases ht with rfl | rfl <;> (dsimp only; split <;> omega)
    have hU : unitsW w (M6.val b) e = if e ≤ unitW w (M6.val b) e then MNearShr.nearN (M6.val b) (unitW w (M6.val b) e - e) else M6.val b * 2 ^ (e - unitW w (M6.val b) e).toNat := rfl
    have j9 : ∀ (p : Bool) (m : Nat), m ≤ 2 ^ 53 → J9 w.1 w.2.1 w.2.2 (unitW w (M6.val b) e) p (M6.dg m) = some [D.s (.sc (.int .u64 (if RInf.infW w < (unitW w (M6.val b) e - w.2.1) * ((2 ^ (w.1 - 1).toNat : Nat) : Int) + (m : Nat) then RInf.infW w else (unitW w (M6.val b) e - w.2.1) * ((2 ^ (w.1 - 1).toNat : Nat) : Int) + (m : Nat))))] := by
      intro p m hm2
      have hd0 : (M6.dg m).getD 0 0 = (m : Int) := by
        have h1 := M6.val_drop_one (a := M6.dg m) 0
        rw [List.drop_zero, M6.val_dg] at h1
        have h2 := (M6.dig_dg m).get 0
        generalize M6.val ((M6.dg m).drop (0 + 1)) = r at *
        have : r = 0 := by
          rcases Nat.eq_zero_or_pos r with h | h
          · exact h
          · omega
        omega
      have j12 : J12 w.1 w.2.1 w.2.2 (unitW w (M6.val b) e) (m : Int) = some [D.s (.sc (.int .u64 (if RInf.infW w < (unitW w (M6.val b) e - w.2.1) * ((2 ^ (w.1 - 1).toNat : Nat) : Int) + (m : Nat) then RInf.infW w else (unitW w (M6.val b) e - w.2.1) * ((2 ^ (w.1 - 1).toNat : Nat) : Int) + (m : Nat))))] := by
        rw [J12_eq, wrap_i64 (n := w.1 - 1) (by omega) (by omega), if_neg (by omega), gP ht, wrap_i64 (n := unitW w (M6.val b) e - w.2.1) (by omega) (by omega), wrap_u64 (n := unitW w (M6.val b) e - w.2.1) (by omega) (by omega)]
        simp only [vlet_eq]
        have hu0 : 0 ≤ unitW w (M6.val b) e - w.2.1 ∧ unitW w (M6.val b) e - w.2.1 ≤ 2122 := by omega
        generalize unitW w (M6.val b) e - w.2.1 = u at *
        have hmul : IntKind.u64.wrap (IntKind.u64.wrap (u * ((2 ^ min (w.1 - 1).toNat 64 : Nat) : Int)) + (m : Int)) = u * ((2 ^ (w.1 - 1).toNat : Nat) : Int) + (m : Int) := by
          rcases hm with h | h
          · rw [h]
            show IntKind.u64.wrap (IntKind.u64.wrap (u * 8388608) + (m : Int)) = u * 8388608 + (m : Int)
            rw [wrap_u64 (n := u * 8388608) (by omega) (by omega), wrap_u64 (by omega) (by omega)]
          · rw [h]
            show IntKind.u64.wrap (IntKind.u64.wrap (u * 4503599627370496) + (m : Int)) = u * 4503599627370496 + (m : Int)
            rw [wrap_u64 (n := u * 4503599627370496) (by omega) (by omega), wrap_u64 (by omega) (by omega)]
        rw [hmul]
      have hz := M6.dg_len_zero (n := m)
      rw [J9_eq]
      by_cases hm0 : m = 0
      · rw [bD_neg (by have := hz.2 hm0; omega)]
        subst hm0
        exact j12
      · rw [bD_pos (by have := fun h => hm0 (hz.1 h); omega), if_pos ⟨by omega, by have := fun h => hm0 (hz.1 h); omega⟩, hd0, j12]
    rw [hU] at hunits ⊢
    by_cases hle : e ≤ unitW w (M6.val b) e
    · rw [if_pos hle] at hunits ⊢
      rw [bD_pos hle, wrap_i64 (n := unitW w (M6.val b) e - e) (by omega) (by omega), gP ⟨hok, by omega, by omega⟩]
      simp only [vlet_eq]
      rw [zs_abs, j9 _ _ hunits]
    · rw [if_neg hle] at hunits ⊢
      have hsm : fit (M6.val b * 2 ^ (e - unitW w (M6.val b) e).toNat) = true := decide_eq_true (by
        have : bl (M6.val b * 2 ^ (e - unitW w (M6.val b) e).toNat) ≤ 54 := bl_le.2 (by omega)
        omega)
      rw [bD_neg hle, wrap_i64 (n := e - unitW w (M6.val b) e) (by omega) (by omega), gP ⟨hok, by omega, by omega⟩]
      simp only [vlet_eq]
      have hwv : wv (false, b) = (M6.val b : Int) := rfl
      rw [hsm, cond_true, hwv, ← Int.natCast_mul, Int.natAbs_natCast, j9 _ _ hunits]

noncomputable def orc : Orc := orc3 (pG (.pair (sN .i64) (.pair (sN .i64) (sN .i64)))) (pI .u64) (pN .i64) sp
theorem fnok : FnOk Tryz.prog E 108 Tryz.f108 cod := fnOk ty_ok mixed (callsOk_of _ rfl (orcs_cons NBits.ok (orcs_cons RInf.ok (orcs_cons MNearShr.ok (orcs_cons MShl.ok orcs_nil)))) (ext_ok)) Tryz.func108 rfl rfl rfl
theorem ok : OrcOk Tryz.prog base.glob 108 orc := fnok.ok3 rfl spec
end RSize
end Go.Proofs.YtknafopmgaolmaaGreatDoor.W

/- gnomon/round.Nearest -/
namespace Go.Proofs.YtknafopmgaolmaaGreatDoor.W
open Go Go.Proofs.YtknafopmgaolmaaGreatDoor.AI Go.Proofs.YtknafopmgaolmaaGreatDoor.M
namespace RNear
noncomputable def E : Env := { ({ base with C := callsOf [(106, ROf.orc), (96, DForm.orc), (108, RSize.orc), (107, RSigned.orc)] }) with nt := 35, own := [34], keep := fun k => (tlook [] k).getD [], cut := tlook [] }
noncomputable def cod : Code := (Go.Proofs.Tryz.f46.body).getD .skip
theorem nok : namesOk E cod = true := by kernel_rfl
theorem start (a : Int) (b1 : Bool) (b2 : List Int) (b3 : Int) : evalFn E Go.Proofs.Tryz.f46 cod [D.s (S.sc (Value.int IntKind.i64 a)), D.agg [S.sc (Value.bool b1), S.ints IntKind.u64 b2, S.sc (Value.int IntKind.i64 b3)]] = gif True (vlet (ROf.ofW a).snd.fst fun y0 => vlet (ROf.ofW a).snd.snd fun y1 => bcase ((ROf.ofW a).fst == (0 : Int) && (y0 == (0 : Int) && (y1 == (0 : Int) && true))) (some [D.s (S.sc (Value.int IntKind.u64 (0 : Int))), D.s (S.sc (Value.int IntKind.i64 (1 : Int)))]) (gif (DyOk (b1, b2, b3)) (bcase ((↑b2.length : Int) == (0 : Int)) (some [D.s (S.sc (Value.int IntKind.u64 (0 : Int))), D.s (S.sc (Value.int IntKind.i64 (0 : Int)))]) (gif (RInf.Two ((ROf.ofW a).fst, y0, y1) ∧ M6.Nrm b2 ∧ M6.val b2 ≠ (0 : Nat) ∧ b2.length ≤ (8192 : Nat) ∧ (-2000000 : Int) ≤ b3 ∧ b3 ≤ (2000000 : Int)) (vlet (RSize.sizeW ((ROf.ofW a).fst, y0, y1) (M6.val b2) b3) fun y2 => gif (RInf.Two ((ROf.ofW a).fst, y0, y1) ∧ (0 : Int) ≤ y2 ∧ y2 ≤ RInf.infW ((ROf.ofW a).fst, y0, y1)) (vlet (RSigned.sgW ((ROf.ofW a).fst, y0, y1) b1 y2) fun y3 => some [D.s (S.sc (Value.int IntKind.u64 y3)), D.s (S.sc (Value.int IntKind.i64 (0 : Int)))])))))) := (evalFn_J rfl nok _).trans (by kernel_rfl)
-- stuck: 0
end RNear
namespace RNear
/-- The pattern of a dyadic. -/
def nearW (f : Int) (p : Int × Int) : Int := if p.1 = 0 then 0 else RSigned.sgW (ROf.ofW f) (isNeg p.1) (RSize.sizeW (ROf.ofW f) p.1.natAbs p.2)
theorem two_of {f : Int} (h : f = 32 ∨ f = 64) : RInf.Two (ROf.ofW f) := by
  rcases h with rfl | rfl
  · exact .inl rfl
  · exact .inr rfl
theorem size_bd {w : Int × Int × Int} (h : RInf.Two w) (v : Nat) (e : Int) : 0 ≤ RSize.sizeW w v e ∧ RSize.sizeW w v e ≤ RInf.infW w := by
  have hi : 0 ≤ RInf.infW w := by unfold RInf.infW; split <;> omega
  have hu : 0 ≤ RSize.unitW w v e - w.2.1 := by unfold RSize.unitW; split <;> omega
  have hm := Int.mul_nonneg hu (Int.natCast_nonneg (2 ^ (w.1 - 1).toNat))
  unfold RSize.sizeW
  split
  · omega
  · split <;> omega
noncomputable def sp (f : Int) (x : Bool × List Int × Int) : Prop × List D := ((f = 32 ∨ f = 64) ∧ DyOk x, [.s (.sc (.int .u64 (nearW f (dv x)))), .s (.sc (.int .i64 0))])
theorem spec (f : Int) (x : Bool × List Int × Int) (h : (sp f x).1) : evalFn E Tryz.f46 cod [(pN .i64).put f, (pG (.pair sB (.pair (sI .u64) (sN .i64)))).put x] = some (sp f x).2 := by
  obtain ⟨hf, hx⟩ := h
  have ht := two_of hf
  have he := hx.2.1
  refine (start f x.1 x.2.1 x.2.2).trans ?_
  have h0 : ((ROf.ofW f).1 == 0) = false := by rcases hf with rfl | rfl <;> rfl
  simp only [vlet_eq]
  rw [gP trivial, h0, Bool.false_and, bF, gP hx]
  have hz := M6.len_zero hx.nrm
  have hd : (dv x).1 = wv (x.1, x.2.1) := rfl
  have ha : (dv x).1.natAbs = M6.val x.2.1 := wv_abs (x.1, x.2.1)
  have hs : isNeg (dv x).1 = x.1 := hx.wok.cells.1
  unfold sp nearW
  try dsimp only
  rw [ha, hs]
  by_cases hl : x.2.1.length = 0
  · rw [bE_pos (by omega), if_pos (by have := hz.1 hl; omega)]
  · have hv : M6.val x.2.1 ≠ 0 := fun h => hl (hz.2 h)
    have hb := size_bd ht (M6.val x.2.1) x.2.2
    rw [bE_neg (by omega), if_neg (by omega), gP ⟨ht, hx.nrm, hv, hx.len, by omega, by omega⟩, gP ⟨ht, hb⟩]
    rfl

noncomputable def orc : Orc := orc2 (pN .i64) (pG (.pair sB (.pair (sI .u64) (sN .i64)))) sp
theorem fnok : FnOk Tryz.prog E 46 Tryz.f46 cod := fnOk ty_ok mixed (callsOk_of _ rfl (orcs_cons ROf.ok (orcs_cons DForm.ok (orcs_cons RSize.ok (orcs_cons RSigned.ok orcs_nil)))) (ext_ok)) Tryz.func46 rfl rfl rfl
theorem ok : OrcOk Tryz.prog base.glob 46 orc := fnok.ok2 rfl spec
end RNear
end Go.Proofs.YtknafopmgaolmaaGreatDoor.W

/- gnomon/round.Narrow -/
namespace Go.Proofs.YtknafopmgaolmaaGreatDoor.W
open Go Go.Proofs.YtknafopmgaolmaaGreatDoor.AI Go.Proofs.YtknafopmgaolmaaGreatDoor.M
namespace RNarrow
noncomputable def E : Env := { ({ base with C := callsOf [(112, BClassOf.orc), (106, ROf.orc), (51, BQuiet.orc), (165, RInf.orc), (107, RSigned.orc), (44, BValue.orc), (46, RNear.orc)] }) with nt := 46, own := [22, 31, 36, 43], keep := fun k => (tlook [] k).getD [], cut := tlook [] }
noncomputable def cod : Code := (Go.Proofs.Tryz.f116.body).getD .skip
theorem nok : namesOk E cod = true := by kernel_rfl
theorem start (a : Int) : evalFn E Go.Proofs.Tryz.f116 cod [D.s (S.sc (Value.int IntKind.u64 a))] = gif (((64 : Int) = (32 : Int) ∨ (64 : Int) = (64 : Int)) ∧ (0 : Int) ≤ a ∧ a < (18446744073709551616 : Int)) (vlet (bif BTake.patB (64 : Int) a then BClass.classV (BShape.shp (64 : Int)) (a % (9223372036854775808 : Int)) else (0 : Int)) fun y0 => gif True (bcase (y0 == (4 : Int)) (gif True (some [D.s (S.sc (Value.int IntKind.u64 (2143289345 : Int))), D.s (S.sc (Value.int IntKind.i64 (0 : Int)))])) (bcase (y0 == (3 : Int)) (gif (RInf.Two ((24 : Int), (-149 : Int), (31 : Int))) (gif (RInf.Two ((24 : Int), (-149 : Int), (31 : Int)) ∧ (0 : Int) ≤ (2139095040 : Int) ∧ (2139095040 : Int) ≤ (2139095040 : Int)) (vlet (RSigned.sgW ((24 : Int), (-149 : Int), (31 : Int)) (a / (9223372036854775808 : Int) == (1 : Int)) (2139095040 : Int)) fun y2 => some [D.s (S.sc (Value.int IntKind.u64 y2)), D.s (S.sc (Value.int IntKind.i64 (0 : Int)))]))) (bcase (y0 == (0 : Int)) (gif (RInf.Two ((24 : Int), (-149 : Int), (31 : Int)) ∧ (0 : Int) ≤ (0 : Int) ∧ (0 : Int) ≤ (2139095040 : Int)) (vlet (RSigned.sgW ((24 : Int), (-149 : Int), (31 : Int)) (a / (9223372036854775808 : Int) == (1 : Int)) (0 : Int)) fun y3 => some [D.s (S.sc (Value.int IntKind.u64 y3)), D.s (S.sc (Value.int IntKind.i64 (0 : Int)))])) (gif (((64 : Int) = (32 : Int) ∨ (64 : Int) = (64 : Int)) ∧ (0 : Int) ≤ a ∧ a < (18446744073709551616 : Int)) (vlet (isNeg (bif BTake.patB (64 : Int) a && BFinite.finB (64 : Int) a then nrmD (BValue.valZ (64 : Int) a) (BValue.valE (64 : Int) a) else ((0 : Int), (0 : Int))).fst) fun y4 => vlet (M6.dg (bif BTake.patB (64 : Int) a && BFinite.finB (64 : Int) a then nrmD (BValue.valZ (64 : Int) a) (BValue.valE (64 : Int) a) else ((0 : Int), (0 : Int))).fst.natAbs) fun y5 => vlet (bif BTake.patB (64 : Int) a && BFinite.finB (64 : Int) a then nrmD (BValue.valZ (64 : Int) a) (BValue.valE (64 : Int) a) else ((0 : Int), (0 : Int))).snd fun y6 => gif (((32 : Int) = (32 : Int) ∨ (32 : Int) = (64 : Int)) ∧ DyOk (y4, y5, y6)) (vlet (RNear.nearW (32 : Int) (dv (y4, y5, y6))) fun y8 => some [D.s (S.sc (Value.int IntKind.u64 y8)), D.s (S.sc (Value.int IntKind.i64 (0 : Int)))]))))))) := (evalFn_J rfl nok _).trans (by kernel_rfl)
-- stuck: 0
end RNarrow
namespace RNarrow
/-- The number of a finite binary64 pattern. -/
def numV (a : Int) : Int × Int := nrmD (BValue.valZ 64 a) (BValue.valE 64 a)
/-- The binary32 pattern of a binary64 one. -/
def narV (a : Int) : Int := if 9218868437227405312 < a % 9223372036854775808 then 2143289345 else if a % 9223372036854775808 = 9218868437227405312 then RSigned.sgW (24, -149, 31) (a / 9223372036854775808 == 1) 2139095040 else if a % 9223372036854775808 = 0 then RSigned.sgW (24, -149, 31) (a / 9223372036854775808 == 1) 0 else RNear.nearW 32 (numV a)
noncomputable def sp (a : Int) : Prop × List D := (0 ≤ a ∧ a < 18446744073709551616, [.s (.sc (.int .u64 (narV a))), .s (.sc (.int .i64 0))])
theorem spec (a : Int) (h : (sp a).1) : evalFn E Tryz.f116 cod [(pN .u64).put a] = some (sp a).2 := by
  obtain ⟨h0, h1⟩ := h
  refine (start a).trans ?_
  have hp : BTake.patB 64 a = true := rfl
  simp only [vlet_eq]
  unfold sp narV
  try dsimp only
  have hc : (bif BTake.patB 64 a then BClass.classV (BShape.shp 64) (a % 9223372036854775808) else 0) = if a % 9223372036854775808 = 0 then 0 else if a % 9223372036854775808 < 4503599627370496 then 1 else if a % 9223372036854775808 < 9218868437227405312 then 2 else if a % 9223372036854775808 = 9218868437227405312 then 3 else 4 := by rw [hp]; rfl
  have hfin : BFinite.finB 64 a = decide (a % 9223372036854775808 < 9218868437227405312) := rfl
  have two : RInf.Two (24, -149, 31) := .inl rfl
  generalize hK : (bif BTake.patB 64 a then BClass.classV (BShape.shp 64) (a % 9223372036854775808) else 0) = K at *
  rw [gP ⟨.inr trivial, h0, h1⟩, gP trivial, hp, Bool.true_and]
  by_cases c1 : 9218868437227405312 < a % 9223372036854775808
  · have hk : K = 4 := by rw [hc, if_neg (by omega), if_neg (by omega), if_neg (by omega), if_neg (by omega)]
    rw [if_pos c1, hk, bE_pos rfl, gP trivial]
  · rw [if_neg c1]
    by_cases c2 : a % 9223372036854775808 = 9218868437227405312
    · have hk : K = 3 := by rw [hc, if_neg (by omega), if_neg (by omega), if_neg (by omega), if_pos c2]
      rw [if_pos c2, hk, bE_neg (by decide), bE_pos rfl, gP two, gP ⟨two, by omega, by omega⟩]
    · rw [if_neg c2]
      by_cases c3 : a % 9223372036854775808 = 0
      · have hk : K = 0 := by rw [hc, if_pos c3]
        rw [if_pos c3, hk, bE_neg (by decide), bE_neg (by decide), bE_pos rfl, gP ⟨two, by omega, by omega⟩]
      · rw [if_neg c3]
        have hk : K ≠ 4 ∧ K ≠ 3 ∧ K ≠ 0 := by
          rw [if_neg c3] at hc
          rcases (show a % 9223372036854775808 < 4503599627370496 ∨ 4503599627370496 ≤ a % 9223372036854775808 by omega) with h | h
          · rw [if_pos h] at hc; omega
          · rw [if_neg (by omega), if_pos (by omega)] at hc; omega
        have hf : BFinite.finB 64 a = true := by rw [hfin]; exact decide_eq_true (by omega)
        rw [bE_neg hk.1, bE_neg hk.2.1, bE_neg hk.2.2, gP ⟨.inr trivial, h0, h1⟩, hf, cond_true]
        have hn := (UReduce.num_lt h0 hf).1
        have e : UReduce.numV a = nrmD (BValue.valZ 64 a) (BValue.valE 64 a) := rfl
        rw [e] at hn
        rw [gP ⟨.inl trivial, dyok_of hn⟩, dv_cells]
        rfl

noncomputable def orc : Orc := orc1 (pN .u64) sp
theorem fnok : FnOk Tryz.prog E 116 Tryz.f116 cod := fnOk ty_ok mixed (callsOk_of _ rfl (orcs_cons BClassOf.ok (orcs_cons ROf.ok (orcs_cons BQuiet.ok (orcs_cons RInf.ok (orcs_cons RSigned.ok (orcs_cons BValue.ok (orcs_cons RNear.ok orcs_nil))))))) (ext_ok)) Tryz.func116 rfl rfl rfl
theorem ok : OrcOk Tryz.prog base.glob 116 orc := fnok.ok1 rfl spec
end RNarrow
end Go.Proofs.YtknafopmgaolmaaGreatDoor.W

/- gnomon/gnomonlaw17.widened -/
namespace Go.Proofs.YtknafopmgaolmaaGreatDoor.W
open Go Go.Proofs.YtknafopmgaolmaaGreatDoor.AI Go.Proofs.YtknafopmgaolmaaGreatDoor.M
namespace LWidened
noncomputable def E : Env := { ({ base with C := callsOf [(115, BWiden.orc), (50, UExact.orc), (116, RNarrow.orc)] }) with nt := 53, own := [], keep := fun k => (tlook [] k).getD [], cut := tlook [] }
noncomputable def cod : Code := (Go.Proofs.Tryz.f52.body).getD .skip
theorem nok : namesOk E cod = true := by kernel_rfl
theorem start (a : Int) (b : Int) (c : Int) (d : Int) : evalFn E Go.Proofs.Tryz.f52 cod [D.s (S.sc (Value.int IntKind.i64 a)), D.s (S.sc (Value.int IntKind.i64 b)), D.s (S.sc (Value.int IntKind.u64 c)), D.s (S.sc (Value.int IntKind.u64 d))] = bcase (a != (32 : Int)) (some [D.s (S.sc (Value.bool true))]) (gif ((0 : Int) ≤ c ∧ c < (18446744073709551616 : Int)) (gif ((0 : Int) ≤ BWiden.widV c ∧ BWiden.widV c < (18446744073709551616 : Int)) (vlet (UExact.exactR (64 : Int) b (BWiden.widV c)).fst fun y0 => vlet (UExact.exactR (64 : Int) b (BWiden.widV c)).snd.fst fun y1 => vlet (UExact.exactR (64 : Int) b (BWiden.widV c)).snd.snd fun y2 => gif ((0 : Int) ≤ y0 ∧ y0 < (18446744073709551616 : Int)) (bcase (BWiden.widE c == (0 : Int)) (bcase (y2 == (0 : Int)) (bcase y1 (some [D.s (S.sc (Value.bool (RNarrow.narV y0 == d)))]) (some [D.s (S.sc (Value.bool false))])) (some [D.s (S.sc (Value.bool false))])) (some [D.s (S.sc (Value.bool false))]))))) := (evalFn_J rfl nok _).trans (by kernel_rfl)
-- stuck: 0
end LWidened
namespace LWidened
def widR (f fn b w : Int) : Bool := bif f != 32 then true else (BWiden.widE b == 0 && ((UExact.exactR 64 fn (BWiden.widV b)).2.2 == 0 && ((UExact.exactR 64 fn (BWiden.widV b)).2.1 && (RNarrow.narV (UExact.exactR 64 fn (BWiden.widV b)).1 == w))))
noncomputable def sp (f fn b w : Int) : Prop × List D := ((0 ≤ b ∧ b < 18446744073709551616) ∧ (f = 32 → (0 ≤ BWiden.widV b ∧ BWiden.widV b < 18446744073709551616) ∧ (0 ≤ (UExact.exactR 64 fn (BWiden.widV b)).1 ∧ (UExact.exactR 64 fn (BWiden.widV b)).1 < 18446744073709551616)), [.s (.sc (.bool (widR f fn b w)))])
theorem spec (f fn b w : Int) (h : (sp f fn b w).1) : evalFn E Tryz.f52 cod [(pN .i64).put f, (pN .i64).put fn, (pN .u64).put b, (pN .u64).put w] = some (sp f fn b w).2 := by
  obtain ⟨h1, h23⟩ := h
  refine (start f fn b w).trans ?_
  unfold sp widR
  try dsimp only
  cases hf : f != 32 with
  | true => rfl
  | false =>
    obtain ⟨h2, h3⟩ := h23 (by simpa using hf)
    rw [bF, gP h1, gP h2]
    simp only [vlet_eq]
    rw [gP h3]
    cases (BWiden.widE b == 0) <;> cases ((UExact.exactR 64 fn (BWiden.widV b)).2.2 == 0) <;> cases (UExact.exactR 64 fn (BWiden.widV b)).2.1 <;> rfl

noncomputable def orc : Orc := orc4 (pN .i64) (pN .i64) (pN .u64) (pN .u64) sp
theorem fnok : FnOk Tryz.prog E 52 Tryz.f52 cod := fnOk ty_ok mixed (callsOk_of _ rfl (orcs_cons BWiden.ok (orcs_cons UExact.ok (orcs_cons RNarrow.ok orcs_nil))) (ext_ok)) Tryz.func52 rfl rfl rfl
theorem ok : OrcOk Tryz.prog base.glob 52 orc := fnok.ok4 rfl spec
end LWidened
end Go.Proofs.YtknafopmgaolmaaGreatDoor.W

/- gnomon/gnomonlaw17.TurnMirrors -/
namespace Go.Proofs.YtknafopmgaolmaaGreatDoor.W
open Go Go.Proofs.YtknafopmgaolmaaGreatDoor.AI Go.Proofs.YtknafopmgaolmaaGreatDoor.M
namespace LawMirrors
noncomputable def E : Env := { ({ base with C := callsOf [(35, LAwake.orc), (50, UExact.orc), (51, BQuiet.orc), (52, LWidened.orc)] }) with nt := 117, own := [115], keep := fun k => (tlook [] k).getD [], cut := tlook [(7, [0, 1, 7, 8]), (10, [0, 1, 7, 8]), (14, [0, 1, 7, 8, 12, 13, 15]), (17, [0, 1, 7, 8, 12, 15, 18]), (19, [0, 1, 7, 8, 12, 15])] }
noncomputable def cod : Code := (Go.Proofs.Tryz.f16.body).getD .skip
theorem nok : namesOk E cod = true := by kernel_rfl
noncomputable def J7 (x0 : Int) (x1 : Int) (x2 : Int) (x3 : Int) : Option (List D) := ctO E Go.Proofs.Tryz.f16 cod 7 [(A.v (V.one (L.s (S.sc (Value.int IntKind.i64 x0)))), none), (A.v (V.one (L.s (S.sc (Value.int IntKind.u64 x1)))), none), (A.v (V.one (L.s (S.sc (Value.int IntKind.i64 x2)))), none), (A.v (V.one (L.s (S.sc (Value.int IntKind.u64 x3)))), none)]
noncomputable def J10 (x0 : Int) (x1 : Int) (x2 : Int) (x3 : Int) : Option (List D) := ctO E Go.Proofs.Tryz.f16 cod 10 [(A.v (V.one (L.s (S.sc (Value.int IntKind.i64 x0)))), none), (A.v (V.one (L.s (S.sc (Value.int IntKind.u64 x1)))), none), (A.v (V.one (L.s (S.sc (Value.int IntKind.i64 x2)))), none), (A.v (V.one (L.s (S.sc (Value.int IntKind.u64 x3)))), none)]
noncomputable def J14 (x0 : Int) (x1 : Int) (x2 : Int) (x3 : Int) (x4 : Int) (b5 : Bool) (x6 : Int) : Option (List D) := ctO E Go.Proofs.Tryz.f16 cod 14 [(A.v (V.one (L.s (S.sc (Value.int IntKind.i64 x0)))), none), (A.v (V.one (L.s (S.sc (Value.int IntKind.u64 x1)))), none), (A.v (V.one (L.s (S.sc (Value.int IntKind.i64 x2)))), none), (A.v (V.one (L.s (S.sc (Value.int IntKind.u64 x3)))), none), (A.v (V.one (L.s (S.sc (Value.int IntKind.u64 x4)))), none), (A.v (V.one (L.s (S.sc (Value.bool b5)))), none), (A.v (V.one (L.s (S.sc (Value.int IntKind.u64 x6)))), none)]
noncomputable def J17 (x0 : Int) (x1 : Int) (x2 : Int) (x3 : Int) (x4 : Int) (x5 : Int) (x6 : Int) : Option (List D) := ctO E Go.Proofs.Tryz.f16 cod 17 [(A.v (V.one (L.s (S.sc (Value.int IntKind.i64 x0)))), none), (A.v (V.one (L.s (S.sc (Value.int IntKind.u64 x1)))), none), (A.v (V.one (L.s (S.sc (Value.int IntKind.i64 x2)))), none), (A.v (V.one (L.s (S.sc (Value.int IntKind.u64 x3)))), none), (A.v (V.one (L.s (S.sc (Value.int IntKind.u64 x4)))), none), (A.v (V.one (L.s (S.sc (Value.int IntKind.u64 x5)))), none), (A.v (V.one (L.s (S.sc (Value.int IntKind.u64 x6)))), none)]
noncomputable def J19 (x0 : Int) (x1 : Int) (x2 : Int) (x3 : Int) (x4 : Int) (x5 : Int) : Option (List D) := ctO E Go.Proofs.Tryz.f16 cod 19 [(A.v (V.one (L.s (S.sc (Value.int IntKind.i64 x0)))), none), (A.v (V.one (L.s (S.sc (Value.int IntKind.u64 x1)))), none), (A.v (V.one (L.s (S.sc (Value.int IntKind.i64 x2)))), none), (A.v (V.one (L.s (S.sc (Value.int IntKind.u64 x3)))), none), (A.v (V.one (L.s (S.sc (Value.int IntKind.u64 x4)))), none), (A.v (V.one (L.s (S.sc (Value.int IntKind.u64 x5)))), none)]
theorem start (a : Int) (b : Int) (c : Bool) : evalFn E Go.Proofs.Tryz.f16 cod [D.s (S.sc (Value.int IntKind.i64 a)), D.s (S.sc (Value.int IntKind.u64 b)), D.s (S.sc (Value.bool c))] = gif True (bcase c (LawMirrors.J7 a (b.tmod (4294967296 : Int)) (32 : Int) (2147483648 : Int)) (LawMirrors.J7 a b (64 : Int) (9223372036854775808 : Int))) := (evalFn_J rfl nok _).trans (by kernel_rfl)
theorem J7_eq (x0 : Int) (x1 : Int) (x2 : Int) (x3 : Int) : J7 x0 x1 x2 x3 = bcase (decide (x0 < (4 : Int))) (gif ((0 : Int) ≤ x1 ∧ x1 < (18446744073709551616 : Int)) (vlet (UExact.exactR x2 x0 x1).snd.fst fun y1 => vlet (UExact.exactR x2 x0 x1).snd.snd fun y2 => bcase (y2 == (1 : Int)) (some [D.s (S.sc (Value.bool !y1))]) (some [D.s (S.sc (Value.bool false))]))) (bcase (decide ((6 : Int) < x0)) (gif ((0 : Int) ≤ x1 ∧ x1 < (18446744073709551616 : Int)) (vlet (UExact.exactR x2 x0 x1).snd.fst fun y4 => vlet (UExact.exactR x2 x0 x1).snd.snd fun y5 => bcase (y5 == (1 : Int)) (some [D.s (S.sc (Value.bool !y4))]) (some [D.s (S.sc (Value.bool false))]))) (LawMirrors.J10 x0 x1 x2 x3)) := (cutAt_J rfl nok 7 _).trans (by kernel_rfl)
theorem J10_eq (x0 : Int) (x1 : Int) (x2 : Int) (x3 : Int) : J10 x0 x1 x2 x3 = gif ((0 : Int) ≤ x1 ∧ x1 < (18446744073709551616 : Int)) (vlet (UExact.exactR x2 x0 x1).fst fun y6 => vlet (UExact.exactR x2 x0 x1).snd.fst fun y7 => vlet (UExact.exactR x2 x0 x1).snd.snd fun y8 => gif ((0 : Int) ≤ bitsI BinOp.xor IntKind.u64 x1 x3 ∧ bitsI BinOp.xor IntKind.u64 x1 x3 < (18446744073709551616 : Int)) (vlet (UExact.exactR x2 x0 (bitsI BinOp.xor IntKind.u64 x1 x3)).fst fun y9 => vlet (UExact.exactR x2 x0 (bitsI BinOp.xor IntKind.u64 x1 x3)).snd.fst fun y10 => vlet (UExact.exactR x2 x0 (bitsI BinOp.xor IntKind.u64 x1 x3)).snd.snd fun y11 => bcase (y8 != (0 : Int)) (some [D.s (S.sc (Value.bool false))]) (bcase (y11 != (0 : Int)) (some [D.s (S.sc (Value.bool false))]) (bcase (y7 != y10) (some [D.s (S.sc (Value.bool false))]) (LawMirrors.J14 x0 x1 x2 x3 y6 y7 y9))))) := (cutAt_J rfl nok 10 _).trans (by kernel_rfl)
theorem J14_eq (x0 : Int) (x1 : Int) (x2 : Int) (x3 : Int) (x4 : Int) (b5 : Bool) (x6 : Int) : J14 x0 x1 x2 x3 x4 b5 x6 = gif True (vlet (BShape.shp x2).snd.snd.snd fun y12 => vlet (bif BQuiet.fmtB x2 then (0 : Int) else (1 : Int)) fun y13 => bcase (y13 != (0 : Int)) (bcase (y13 == (0 : Int)) (bcase (x4 == (0 : Int)) (some [D.s (S.sc (Value.bool (x6 == (0 : Int))))]) (some [D.s (S.sc (Value.bool false))])) (some [D.s (S.sc (Value.bool false))])) (bcase (!b5) (bcase (y13 == (0 : Int)) (bcase (x4 == (0 : Int)) (some [D.s (S.sc (Value.bool (x6 == (0 : Int))))]) (some [D.s (S.sc (Value.bool false))])) (some [D.s (S.sc (Value.bool false))])) (LawMirrors.J17 x0 x1 x2 x3 x4 x6 y12))) := (cutAt_J rfl nok 14 _).trans (by kernel_rfl)
theorem J17_eq (x0 : Int) (x1 : Int) (x2 : Int) (x3 : Int) (x4 : Int) (x5 : Int) (x6 : Int) : J17 x0 x1 x2 x3 x4 x5 x6 = bcase (x4 == x6) (some [D.s (S.sc (Value.bool (x4 == x5)))]) (bcase (x0 == (5 : Int)) (some [D.s (S.sc (Value.bool (x4 == x5)))]) (LawMirrors.J19 x0 x1 x2 x3 x4 x5)) := (cutAt_J rfl nok 17 _).trans (by kernel_rfl)
theorem J19_eq (x0 : Int) (x1 : Int) (x2 : Int) (x3 : Int) (x4 : Int) (x5 : Int) : J19 x0 x1 x2 x3 x4 x5 = bcase (x4 == bitsI BinOp.xor IntKind.u64 x5 x3) (gif (((0 : Int) ≤ x1 ∧ x1 < (18446744073709551616 : Int)) ∧ (x2 = (32 : Int) → ((0 : Int) ≤ BWiden.widV x1 ∧ BWiden.widV x1 < (18446744073709551616 : Int)) ∧ (0 : Int) ≤ (UExact.exactR (64 : Int) x0 (BWiden.widV x1)).fst ∧ (UExact.exactR (64 : Int) x0 (BWiden.widV x1)).fst < (18446744073709551616 : Int))) (some [D.s (S.sc (Value.bool (LWidened.widR x2 x0 x1 x4)))])) (some [D.s (S.sc (Value.bool false))]) := (cutAt_J rfl nok 19 _).trans (by kernel_rfl)
-- stuck: 0
end LawMirrors
namespace LawMirrors
theorem flip_sign {b s : Nat} {k : Nat} (hs : s = 2 ^ k) (hk : k < 64) (hb : b < 2 * s) : bitsI .xor .u64 (b : Int) (s : Int) = if (b : Int) < (s : Int) then (b : Int) + s else (b : Int) - s := by
  have hs64 : 2 * s ≤ 2 ^ 64 := by rw [hs, Nat.mul_comm, ← Nat.pow_succ]; exact Nat.pow_le_pow_right (by omega) (by omega)
  rw [AI.bitsI_eq]
  unfold AI.bitsI0
  simp only
  have e : (BitVec.ofInt IntKind.u64.bits (b : Int) ^^^ BitVec.ofInt IntKind.u64.bits (s : Int)).toNat = b ^^^ s := by
    show (BitVec.ofInt 64 (b : Int) ^^^ BitVec.ofInt 64 (s : Int)).toNat = _
    rw [BitVec.toNat_xor]
    have e1 : (BitVec.ofInt 64 (b : Int)).toNat = b := by simp; omega
    have e2 : (BitVec.ofInt 64 (s : Int)).toNat = s := by simp; omega
    rw [e1, e2]
  rw [e]
  have low : ∀ n, n < 2 ^ k → n ^^^ 2 ^ k = 2 ^ k + n := by
    intro n hn
    apply Nat.eq_of_testBit_eq
    intro i
    rw [Nat.testBit_xor, Nat.testBit_two_pow]
    by_cases hi : i = k
    · subst hi
      rw [Nat.testBit_two_pow_add_eq, Nat.testBit_lt_two_pow hn]
      simp
    · by_cases hik : i < k
      · rw [Nat.testBit_two_pow_add_gt hik, decide_eq_false (by omega)]
        simp
      · have h1 : n.testBit i = false := Nat.testBit_lt_two_pow (Nat.lt_of_lt_of_le hn (Nat.pow_le_pow_right (by omega) (by omega)))
        have h2 : (2 ^ k + n).testBit i = false := Nat.testBit_lt_two_pow (Nat.lt_of_lt_of_le (show 2 ^ k + n < 2 ^ (k + 1) by rw [Nat.pow_succ]; omega) (Nat.pow_le_pow_right (by omega) (by omega)))
        rw [h1, h2, decide_eq_false (by omega)]
        rfl
  by_cases h : b < s
  · rw [if_pos (by omega), hs, low b (by omega), wrap_u64 (by omega) (by omega)]
    omega
  · have := low (b - s) (by omega)
    have h2 : b ^^^ s = b - s := by
      have h3 : b = (b - s) ^^^ 2 ^ k := by rw [this]; omega
      rw [hs] at h3 ⊢
      conv => lhs; rw [h3]
      rw [Nat.xor_assoc, Nat.xor_self, Nat.xor_zero]
    rw [if_neg (by omega), h2, wrap_u64 (by omega) (by omega)]
    omega
/-- Exact's value at the opposite number. -/
theorem ex_neg {fn z e : Int} (hz : z % 2 = 1) : (UExact0.exV fn (-z, e)).1 = (UExact0.exV fn (z, e)).1 ∧ (UExact0.exV fn (-z, e)).2.2 = (UExact0.exV fn (z, e)).2.2 ∧ ((UExact0.exV fn (z, e)).2.2 = true → (UExact0.exV fn (-z, e)).2.1 = if fn = 5 then (UExact0.exV fn (z, e)).2.1 else !(UExact0.exV fn (z, e)).2.1) := by
  have h1 : isNeg (-z) = !isNeg z := by
    cases h : isNeg z with
    | true => have := isNeg_iff.1 h; exact isNeg_false.2 (by omega)
    | false => have := isNeg_false.1 h; exact isNeg_iff.2 (by omega)
  have h3 : ((-z) % 4 == 3) = !(z % 4 == 3) := by
    by_cases h : z % 4 = 3
    · rw [beq_iff_eq.2 h]; exact beq_eq_false_iff_ne.2 (by omega)
    · rw [beq_eq_false_iff_ne.2 h]; exact beq_iff_eq.2 (by omega)
  unfold UExact0.exV
  try dsimp only
  rw [h1, h3]
  by_cases f4 : fn = 4
  · subst f4
    rw [if_pos rfl, if_pos rfl, if_neg (show ¬ ((4 : Int) = 5) by omega)]
    by_cases c1 : 0 ≤ e
    · simp [c1]
    · by_cases c2 : e = -1
      · simp [c2]
      · simp [c1, c2]
  · rw [if_neg f4, if_neg f4]
    by_cases f5 : fn = 5
    · subst f5
      simp only [if_true]
      by_cases c1 : 0 ≤ e
      · simp [c1]
      · by_cases c2 : e = -1
        · simp [c2]
        · simp [c1, c2]
    · rw [if_neg f5, if_neg f5]
      by_cases f6 : fn = 6
      · subst f6
        simp only [if_true, show ¬ ((6 : Int) = 5) by omega, if_false]
        by_cases c1 : 0 ≤ e
        · simp only [c1, if_true]
          refine ⟨trivial, trivial, fun _ => ?_⟩
          cases isNeg z <;> cases (e == 0) <;> rfl
        · by_cases c2 : e = -1
          · simp [c2]
          · by_cases c3 : e = -2
            · simp [c3]
            · simp [c1, c2, c3]
      · rw [if_neg f6, if_neg f6]
        simp
theorem sg_pos (f : Int) : BSign.signV (BShape.shp f) = 2147483648 ∨ BSign.signV (BShape.shp f) = 9223372036854775808 := by unfold BSign.signV; split <;> simp
theorem ex_known {fn : Int} (h : 4 ≤ fn ∧ fn ≤ 6) : UKnown.knownB fn = true := by
  have : fn = 4 ∨ fn = 5 ∨ fn = 6 := by omega
  rcases this with rfl | rfl | rfl <;> rfl
theorem inf_sg {f : Int} (h : f = 32 ∨ f = 64) : 0 < BHidden.hidV (BShape.shp f) ∧ BHidden.hidV (BShape.shp f) < BInf.infV (BShape.shp f) ∧ BInf.infV (BShape.shp f) < BSign.signV (BShape.shp f) := by
  rcases h with rfl | rfl
  · exact ⟨by show (0 : Int) < 8388608; omega, by show (8388608 : Int) < 2139095040; omega, by show (2139095040 : Int) < 2147483648; omega⟩
  · exact ⟨by show (0 : Int) < 4503599627370496; omega, by show (4503599627370496 : Int) < 9218868437227405312; omega, by show (9218868437227405312 : Int) < 9223372036854775808; omega⟩
theorem ex_top {f fn b : Int} (h : f = 32 ∨ f = 64) (hf : 4 ≤ fn ∧ fn ≤ 6) (hp : BTake.patB f b = true) (hn : BInf.infV (BShape.shp f) ≤ b % BSign.signV (BShape.shp f)) : UExact.exactR f fn b = ((BShape.shp f).2.2.2, true, 0) := by
  have hi := inf_sg h
  have hq : BQuiet.fmtB f = true := decide_eq_true h
  unfold UExact.exactR
  rw [if_neg (by rw [hq, ex_known hf]; simp), if_neg (by rw [hp]; simp), if_pos]
  unfold BClass.classV
  rw [if_neg (by omega), if_neg (by omega), if_neg (by omega)]
  split <;> simp
theorem ex_zero {f fn b : Int} (h : f = 32 ∨ f = 64) (hf : 4 ≤ fn ∧ fn ≤ 6) (hp : BTake.patB f b = true) (hn : b % BSign.signV (BShape.shp f) = 0) : UExact.exactR f fn b = (if fn = 5 then UPattern.patV f 1 false else b, true, 0) := by
  have hq : BQuiet.fmtB f = true := decide_eq_true h
  have hc : BClass.classV (BShape.shp f) (b % BSign.signV (BShape.shp f)) = 0 := by unfold BClass.classV; rw [if_pos hn]
  unfold UExact.exactR
  rw [if_neg (by rw [hq, ex_known hf]; simp), if_neg (by rw [hp]; simp), if_neg (by rw [hc]; omega), if_pos hc]
theorem ex_fin {f fn b : Int} (h : f = 32 ∨ f = 64) (hf : 4 ≤ fn ∧ fn ≤ 6) (hp : BTake.patB f b = true) (hn : 0 < b % BSign.signV (BShape.shp f)) (hn2 : b % BSign.signV (BShape.shp f) < BInf.infV (BShape.shp f)) :
    UExact.exactR f fn b = if (UExact0.exV fn (UExact.numF f b)).2.2 = true then (UPattern.patV f (UExact0.exV fn (UExact.numF f b)).1 (UExact0.exV fn (UExact.numF f b)).2.1, true, 0) else (0, false, 0) := by
  have hq : BQuiet.fmtB f = true := decide_eq_true h
  have hc : BClass.classV (BShape.shp f) (b % BSign.signV (BShape.shp f)) = 1 ∨ BClass.classV (BShape.shp f) (b % BSign.signV (BShape.shp f)) = 2 := by
    unfold BClass.classV
    rw [if_neg (by omega)]
    split
    · exact .inl rfl
    · first | exact .inr rfl | (rw [if_pos hn2]; exact .inr rfl)
  unfold UExact.exactR
  rw [if_neg (by rw [hq, ex_known hf]; simp), if_neg (by rw [hp]; simp), if_neg (by omega), if_neg (by omega)]
theorem num_man {f b : Int} (h : f = 32 ∨ f = 64) (_ : 0 ≤ b) (hn : 0 < b % BSign.signV (BShape.shp f)) : 0 < (BParts.manV (BShape.shp f) (b % BSign.signV (BShape.shp f))) := by
  have hi := inf_sg h
  unfold BParts.manV
  split
  · rename_i hd
    have := Int.emod_add_mul_ediv (b % BSign.signV (BShape.shp f)) (BHidden.hidV (BShape.shp f))
    rw [hd, Int.mul_zero] at this
    omega
  · have := Int.emod_nonneg (b % BSign.signV (BShape.shp f)) (show BHidden.hidV (BShape.shp f) ≠ 0 by omega)
    omega
/-- The opposite pattern's number. -/
theorem num_flip {f b c : Int} (h1 : c % BSign.signV (BShape.shp f) = b % BSign.signV (BShape.shp f)) (h2 : decide (BSign.signV (BShape.shp f) ≤ c) = !decide (BSign.signV (BShape.shp f) ≤ b)) : UExact.numF f c = (-(UExact.numF f b).1, (UExact.numF f b).2) := by
  unfold UExact.numF BValue.valZ BValue.valE
  rw [h1, h2, ← nrmD_neg]
  congr 1
  unfold zs
  cases decide (BSign.signV (BShape.shp f) ≤ b) <;> simp
theorem num_odd {f b : Int} (h : f = 32 ∨ f = 64) (h0 : 0 ≤ b) (hn : 0 < b % BSign.signV (BShape.shp f)) : (UExact.numF f b).1 % 2 = 1 := by
  have hm := num_man h h0 hn
  apply nrmD_odd
  rw [Ne, nrmD_one_zero]
  unfold BValue.valZ
  rw [zs_zero]
  omega
/-- Widening keeps the number. -/
theorem wid_num {b : Int} (h0 : 0 ≤ b) (h1 : b < 4294967296) (hn : 0 < b % 2147483648) (hn2 : b % 2147483648 < 2139095040) :
    BWiden.widE b = 0 ∧ 0 ≤ BWiden.widV b ∧ BWiden.widV b < 18446744073709551616 ∧ 0 < BWiden.widV b % 9223372036854775808 ∧ BWiden.widV b % 9223372036854775808 < 9218868437227405312 ∧ UExact.numF 64 (BWiden.widV b) = UExact.numF 32 b := by
  have hp : BTake.patB 32 b = true := decide_eq_true (by show b < 4294967296; omega)
  have hc : BClass.classV BWiden.s32 (b % 2147483648) = 1 ∨ BClass.classV BWiden.s32 (b % 2147483648) = 2 := by
    unfold BClass.classV
    rw [if_neg (by omega)]
    split
    · exact .inl rfl
    · first | exact .inr rfl | (rw [if_pos (show b % 2147483648 < BInf.infV BWiden.s32 from hn2)]; exact .inr rfl)
  have hsg : BSign.signV (BShape.shp 32) = 2147483648 := rfl
  have hman := num_man (f := 32) (.inl rfl) h0 (by rw [hsg]; exact hn)
  rw [hsg] at hman
  have hmlt : BParts.manV BWiden.s32 (b % 2147483648) < 16777216 := by
    unfold BParts.manV
    rw [show BHidden.hidV BWiden.s32 = 8388608 from rfl]
    split <;> omega
  have hexp : -149 ≤ BParts.expV BWiden.s32 (b % 2147483648) ∧ BParts.expV BWiden.s32 (b % 2147483648) ≤ 104 := by
    unfold BParts.expV
    rw [show BHidden.hidV BWiden.s32 = 8388608 from rfl, show BWiden.s32.2.2.1 = -149 from rfl]
    split <;> omega
  have hnum32 : UExact.numF 32 b = nrmD (zs (decide (2147483648 ≤ b)) (BParts.manV BWiden.s32 (b % 2147483648)).toNat) (BParts.expV BWiden.s32 (b % 2147483648)) := rfl
  have hV : BWiden.widV b = BJoin.valJ BWiden.s64 (decide (2147483648 ≤ b)) (BWiden.widO b) := by
    unfold BWiden.widV
    rw [hp, cond_true, if_neg (by omega), if_neg (by omega)]
  have hE : BWiden.widE b = BJoin.errJ (BWiden.widO b) := by
    unfold BWiden.widE
    rw [hp, cond_true, if_neg (by omega), if_neg (by omega)]
  have hO : BWiden.widO b = BJoin.joinO BWiden.s64 (BParts.manV BWiden.s32 (b % 2147483648)) (BParts.expV BWiden.s32 (b % 2147483648)) := rfl
  rw [hE, hV, hnum32, hO]
  have hman : 0 < BParts.manV BWiden.s32 (b % 2147483648) := hman
  generalize BParts.manV BWiden.s32 (b % 2147483648) = M at *
  generalize BParts.expV BWiden.s32 (b % 2147483648) = e at *
  obtain ⟨m, rfl⟩ := Int.eq_ofNat_of_zero_le (show 0 ≤ M by omega)
  have hm0 : m ≠ 0 := by omega
  have htz := tz_spec m hm0
  have hmul : m = m / 2 ^ tz m * 2 ^ tz m := by
    have := Nat.div_add_mod m (2 ^ tz m)
    rw [htz.1] at this
    rw [Nat.mul_comm]; omega
  have hm'0 : m / 2 ^ tz m ≠ 0 := by omega
  have hbm : bl m ≤ 24 := bl_le.2 (by omega)
  have hbm' : bl (m / 2 ^ tz m) ≤ 24 := Nat.le_trans (bl_mono (Nat.div_le_self _ _)) hbm
  have htl := tz_bl hm0
  have hJ : BJoin.joinO BWiden.s64 (m : Int) e = BJoin.sizeJ BWiden.s64 (m / 2 ^ tz m) (e + ((tz m : Nat) : Int)) := by
    unfold BJoin.joinO BJoin.joinS
    rw [Int.toNat_natCast, if_neg (by omega), show BWiden.s64.2.2.1 = -1074 from rfl, show BWiden.s64.2.1 = 53 from rfl, if_neg (by omega), if_neg (by omega)]
  rw [hJ]
  generalize hg : m / 2 ^ tz m = m' at *
  generalize tz m = t at *
  have hup : BJoin.upJ BWiden.s64 m' (e + (t : Int)) = 53 - bl m' := by
    unfold BJoin.upJ
    rw [show BWiden.s64.2.2.1 = -1074 from rfl, show BWiden.s64.2.1 = 53 from rfl, if_neg (by omega)]
    omega
  have hbig : 2 ^ 52 ≤ m' * 2 ^ (53 - bl m') ∧ m' * 2 ^ (53 - bl m') < 2 ^ 53 := by
    have hb : bl (m' * 2 ^ (53 - bl m')) = 53 := by rw [Nat.mul_comm, bl_mul hm'0]; omega
    refine ⟨?_, bl_le.1 (by omega)⟩
    have := (lt_bl_iff (n := m' * 2 ^ (53 - bl m')) (k := 52)).1 (by omega)
    exact this
  have hS : BJoin.sizeJ BWiden.s64 m' (e + (t : Int)) = some ((e + (t : Int) - ((53 - bl m' : Nat) : Int) - -1074) * 4503599627370496 + ((m' * 2 ^ (53 - bl m') : Nat) : Int)) := by
    unfold BJoin.sizeJ
    rw [hup, show BHidden.hidV BWiden.s64 = 4503599627370496 from rfl, show BInf.infV BWiden.s64 = 9218868437227405312 from rfl, show BWiden.s64.2.2.1 = -1074 from rfl, if_neg (by omega), if_neg (by omega)]
  rw [hS]
  generalize hu : 53 - bl m' = u at *
  generalize hMM : m' * 2 ^ u = MM at *
  have hc0 : 0 ≤ (e + (t : Int) - (u : Int) - -1074) * 4503599627370496 + (MM : Int) ∧ (e + (t : Int) - (u : Int) - -1074) * 4503599627370496 + (MM : Int) < 9218868437227405312 := by omega
  generalize hcc : (e + (t : Int) - (u : Int) - -1074) * 4503599627370496 + (MM : Int) = c at *
  have hsgv : BSign.signV BWiden.s64 = 9223372036854775808 := rfl
  have hval : BJoin.valJ BWiden.s64 (decide (2147483648 ≤ b)) (some c) = bif decide (2147483648 ≤ b) then c + 9223372036854775808 else c := rfl
  rw [hval]
  have hmod : (bif decide (2147483648 ≤ b) then c + 9223372036854775808 else c) % 9223372036854775808 = c := by
    cases decide (2147483648 ≤ b) with
    | true => rw [cond_true]; omega
    | false => rw [cond_false]; omega
  have hdec : decide (9223372036854775808 ≤ (bif decide (2147483648 ≤ b) then c + 9223372036854775808 else c)) = decide (2147483648 ≤ b) := by
    cases decide (2147483648 ≤ b) with
    | true => rw [cond_true]; exact decide_eq_true (by omega)
    | false => rw [cond_false]; exact decide_eq_false (by omega)
  refine ⟨rfl, ?_, ?_, ?_, ?_, ?_⟩
  · cases decide (2147483648 ≤ b) with
    | true => rw [cond_true]; omega
    | false => rw [cond_false]; omega
  · cases decide (2147483648 ≤ b) with
    | true => rw [cond_true]; omega
    | false => rw [cond_false]; omega
  · rw [hmod]; omega
  · rw [hmod]; omega
  · unfold UExact.numF BValue.valZ BValue.valE
    rw [show BSign.signV (BShape.shp 64) = 9223372036854775808 from rfl, hmod, hdec]
    have hman2 : BParts.manV (BShape.shp 64) c = (MM : Int) := by
      unfold BParts.manV
      rw [show BHidden.hidV (BShape.shp 64) = 4503599627370496 from rfl, if_neg (by omega)]
      omega
    have hexp2 : BParts.expV (BShape.shp 64) c = e + (t : Int) - (u : Int) := by
      unfold BParts.expV
      rw [show BHidden.hidV (BShape.shp 64) = 4503599627370496 from rfl, if_neg (by omega), show (BShape.shp 64).2.2.1 = -1074 from rfl]
      omega
    rw [hman2, hexp2, Int.toNat_natCast, Int.toNat_natCast]
    have z1 : zs (decide (2147483648 ≤ b)) MM = zs (decide (2147483648 ≤ b)) m' * p2 (u : Nat) := by
      rw [p2_nat, ← hMM]
      unfold zs
      cases decide (2147483648 ≤ b) <;> simp [Int.neg_mul]
    have z2 : zs (decide (2147483648 ≤ b)) m = zs (decide (2147483648 ≤ b)) m' * p2 (t : Nat) := by
      rw [p2_nat, hmul]
      unfold zs
      cases decide (2147483648 ≤ b) <;> simp [Int.neg_mul]
    rw [z1, z2, nrmD_p2 _ _ (by omega), nrmD_p2 _ _ (by omega)]
    congr 1
    omega
theorem pat_flip {f s : Int} (h : f = 32 ∨ f = 64) (n : Bool) : UPattern.patV f s (!n) = if UPattern.patV f s n < BSign.signV (BShape.shp f) then UPattern.patV f s n + BSign.signV (BShape.shp f) else UPattern.patV f s n - BSign.signV (BShape.shp f) := by
  have hsz : 0 ≤ (if s = 2 then BInf.infV (BShape.shp f) else if s = 1 then (if f = 32 then 1065353216 else 4607182418800017408) else 0) ∧ (if s = 2 then BInf.infV (BShape.shp f) else if s = 1 then (if f = 32 then 1065353216 else 4607182418800017408) else 0) < BSign.signV (BShape.shp f) := by
    have hi := inf_sg h
    rcases h with rfl | rfl
    · rw [show BSign.signV (BShape.shp 32) = 2147483648 from rfl] at *
      split
      · omega
      · split
        · rw [if_pos rfl]; omega
        · omega
    · rw [show BSign.signV (BShape.shp 64) = 9223372036854775808 from rfl] at *
      split
      · omega
      · split
        · rw [if_neg (by omega)]; omega
        · omega
  unfold UPattern.patV BJoin.sgnd
  generalize (if s = 2 then BInf.infV (BShape.shp f) else if s = 1 then (if f = 32 then 1065353216 else 4607182418800017408) else 0) = c at *
  cases n with
  | true => rw [Bool.not_true, cond_false, cond_true, if_neg (by omega)]; omega
  | false => rw [Bool.not_false, cond_false, cond_true, if_pos (by omega)]
theorem pat_bd {f s : Int} (h : f = 32 ∨ f = 64) (n : Bool) : 0 ≤ UPattern.patV f s n ∧ UPattern.patV f s n < 2 * BSign.signV (BShape.shp f) ∧ UPattern.patV f s n ≠ (BShape.shp f).2.2.2 := by
  unfold UPattern.patV BJoin.sgnd
  rcases h with rfl | rfl
  · rw [show BSign.signV (BShape.shp 32) = 2147483648 from rfl, show BInf.infV (BShape.shp 32) = 2139095040 from rfl, show (BShape.shp 32).2.2.2 = 2143289345 from rfl, if_pos (show (32 : Int) = 32 from rfl)]
    by_cases h2 : s = 2
    · rw [if_pos h2]; cases n <;> (simp only [cond_true, cond_false]; omega)
    · rw [if_neg h2]
      by_cases h1 : s = 1
      · rw [if_pos h1]; cases n <;> (simp only [cond_true, cond_false]; omega)
      · rw [if_neg h1]; cases n <;> (simp only [cond_true, cond_false]; omega)
  · rw [show BSign.signV (BShape.shp 64) = 9223372036854775808 from rfl, show BInf.infV (BShape.shp 64) = 9218868437227405312 from rfl, show (BShape.shp 64).2.2.2 = 9221120237041090561 from rfl, if_neg (show ¬ ((64 : Int) = 32) by omega)]
    by_cases h2 : s = 2
    · rw [if_pos h2]; cases n <;> (simp only [cond_true, cond_false]; omega)
    · rw [if_neg h2]
      by_cases h1 : s = 1
      · rw [if_pos h1]; cases n <;> (simp only [cond_true, cond_false]; omega)
      · rw [if_neg h1]; cases n <;> (simp only [cond_true, cond_false]; omega)
/-- Exact's patterns, narrowed. -/
theorem narrow_pat {s : Int} (h : s = 0 ∨ s = 1 ∨ s = 2) (n : Bool) : RNarrow.narV (UPattern.patV 64 s n) = UPattern.patV 32 s n := by
  rcases h with rfl | rfl | rfl
  · cases n <;> rfl
  · have t52 : tz (4503599627370496 : Nat) = 52 := by
      have := tz_mul (n := 1) (by omega) 52
      rw [tz_odd (n := 1) rfl] at this
      exact this
    have e1 : ∀ z : Int, z.natAbs = 4503599627370496 → nrmD z (-52) = (z / 4503599627370496, 0) := by
      intro z hz
      unfold nrmD
      rw [if_neg (by omega), hz, t52]
      rfl
    cases n with
    | false =>
      have e2 : RNarrow.numV (UPattern.patV 64 1 false) = (1, 0) := e1 4503599627370496 rfl
      unfold RNarrow.narV
      rw [e2]
      rfl
    | true =>
      have e2 : RNarrow.numV (UPattern.patV 64 1 true) = (-1, 0) := e1 (-4503599627370496) rfl
      unfold RNarrow.narV
      rw [e2]
      rfl
  · cases n <;> rfl
theorem flip_bit {f x : Int} (h : f = 32 ∨ f = 64) (h0 : 0 ≤ x) (h1 : x < 2 * BSign.signV (BShape.shp f)) : bitsI .xor .u64 x (BSign.signV (BShape.shp f)) = if x < BSign.signV (BShape.shp f) then x + BSign.signV (BShape.shp f) else x - BSign.signV (BShape.shp f) := by
  obtain ⟨n, rfl⟩ := Int.eq_ofNat_of_zero_le h0
  rcases h with rfl | rfl
  · exact flip_sign (b := n) (s := 2147483648) (k := 31) rfl (by omega) (by have : (n : Int) < 2 * 2147483648 := h1; omega)
  · exact flip_sign (b := n) (s := 9223372036854775808) (k := 63) rfl (by omega) (by have : (n : Int) < 2 * 9223372036854775808 := h1; omega)
theorem wid_ok {fn x w : Int} (hf : 4 ≤ fn ∧ fn ≤ 6) (h0 : 0 ≤ x) (h1 : x < 4294967296) (hn : x % 2147483648 < 2139095040) (hw : (UExact.exactR 32 fn x) = (w, true, 0)) (h5 : fn ≠ 5) :
    (0 ≤ BWiden.widV x ∧ BWiden.widV x < 18446744073709551616) ∧ (0 ≤ (UExact.exactR 64 fn (BWiden.widV x)).1 ∧ (UExact.exactR 64 fn (BWiden.widV x)).1 < 18446744073709551616) ∧ LWidened.widR 32 fn x w = true := by
  have hp : BTake.patB 32 x = true := decide_eq_true (by show x < 4294967296; omega)
  by_cases hz : x % 2147483648 = 0
  · rw [ex_zero (.inl rfl) hf hp hz, if_neg h5] at hw
    have hwx : w = x := (congrArg Prod.fst hw).symm
    subst hwx
    have hc : BClass.classV BWiden.s32 (w % 2147483648) = 0 := by unfold BClass.classV; rw [if_pos hz]
    have hO : BWiden.widO w = some 0 := by
      unfold BWiden.widO BJoin.joinO BParts.manV
      rw [hz]
      rfl
    have hV : BWiden.widV w = bif decide (2147483648 ≤ w) then 9223372036854775808 else 0 := by
      unfold BWiden.widV
      rw [hp, cond_true, if_neg (by omega), if_neg (by omega), hO]
      cases decide (2147483648 ≤ w) <;> rfl
    have hE : BWiden.widE w = 0 := by
      unfold BWiden.widE
      rw [hp, cond_true, if_neg (by omega), if_neg (by omega), hO]
      rfl
    have hm : BWiden.widV w % BSign.signV (BShape.shp 64) = 0 := by
      rw [hV]; cases decide (2147483648 ≤ w) <;> rfl
    have hex := ex_zero (f := 64) (fn := fn) (b := BWiden.widV w) (.inr rfl) hf rfl hm
    rw [if_neg h5] at hex
    unfold LWidened.widR
    rw [hex, hE, hV]
    by_cases hs : 2147483648 ≤ w
    · have : w = 2147483648 := by omega
      subst this
      exact ⟨⟨by decide, by decide⟩, ⟨by decide, by decide⟩, rfl⟩
    · have : w = 0 := by omega
      subst this
      exact ⟨⟨by decide, by decide⟩, ⟨by decide, by decide⟩, rfl⟩
  · obtain ⟨w1, w2, w3, w4, w5, w6⟩ := wid_num h0 h1 (by omega) hn
    have e32 := ex_fin (f := 32) (fn := fn) (b := x) (.inl rfl) hf hp (by show 0 < x % 2147483648; omega) hn
    have e64 := ex_fin (f := 64) (fn := fn) (b := BWiden.widV x) (.inr rfl) hf rfl w4 w5
    rw [w6] at e64
    rw [e32] at hw
    cases hok : (UExact0.exV fn (UExact.numF 32 x)).2.2 with
    | false => rw [hok, if_neg (by simp)] at hw; cases hw
    | true =>
      rw [hok, if_pos rfl] at hw e64
      have hwx : w = _ := (congrArg Prod.fst hw).symm
      have hb := pat_bd (f := 64) (s := (UExact0.exV fn (UExact.numF 32 x)).1) (.inr rfl) (UExact0.exV fn (UExact.numF 32 x)).2.1
      rw [show BSign.signV (BShape.shp 64) = 9223372036854775808 from rfl] at hb
      refine ⟨⟨w2, w3⟩, ?_, ?_⟩
      · rw [e64]; exact ⟨hb.1, by have := hb.2.1; omega⟩
      · unfold LWidened.widR
        rw [e64, w1, hwx, narrow_pat (UExact.ex_size _ _)]
        simp
theorem main {fn f x : Int} (h : f = 32 ∨ f = 64) (h0 : 0 ≤ x) (h1 : x < 2 * BSign.signV (BShape.shp f)) : J7 fn x f (BSign.signV (BShape.shp f)) = some [D.s (.sc (.bool true))] := by
  have hi := inf_sg h
  have hsg := sg_pos f
  have hx64 : 0 ≤ x ∧ x < 18446744073709551616 := ⟨h0, by omega⟩
  have hfmt : BQuiet.fmtB f = true := decide_eq_true h
  rw [J7_eq]
  by_cases c1 : fn < 4
  · have hk : UKnown.knownB fn = false := decide_eq_false (by omega)
    have he : UExact.exactR f fn x = (0, false, 1) := by unfold UExact.exactR; rw [if_pos (.inr hk)]
    rw [bD_pos c1, gP hx64, he]
    rfl
  · rw [bD_neg c1]
    by_cases c2 : 6 < fn
    · have hk : UKnown.knownB fn = false := decide_eq_false (by omega)
      have he : UExact.exactR f fn x = (0, false, 1) := by unfold UExact.exactR; rw [if_pos (.inr hk)]
      rw [bD_pos c2, gP hx64, he]
      rfl
    · have hfn : 4 ≤ fn ∧ fn ≤ 6 := by omega
      rw [bD_neg c2, J10_eq, gP hx64, flip_bit h h0 h1]
      obtain ⟨c, hc⟩ : ∃ c, c = if x < BSign.signV (BShape.shp f) then x + BSign.signV (BShape.shp f) else x - BSign.signV (BShape.shp f) := ⟨_, rfl⟩
      rw [← hc]
      have hc0 : 0 ≤ c ∧ c < 2 * BSign.signV (BShape.shp f) := by rw [hc]; split <;> omega
      have hcm : c % BSign.signV (BShape.shp f) = x % BSign.signV (BShape.shp f) := by
        rw [hc]
        split
        · rw [Int.add_emod_right]
        · rw [Int.sub_emod_right]
      have hcs : decide (BSign.signV (BShape.shp f) ≤ c) = !decide (BSign.signV (BShape.shp f) ≤ x) := by
        rw [hc]
        split
        · rw [decide_eq_true (by omega), decide_eq_false (by omega)]; rfl
        · rw [decide_eq_false (by omega), decide_eq_true (by omega)]; rfl
      have hcc : bitsI .xor .u64 c (BSign.signV (BShape.shp f)) = x := by
        rw [flip_bit h hc0.1 hc0.2, hc]
        split <;> (split <;> omega)
      have hpat : ∀ y, 0 ≤ y → y < 2 * BSign.signV (BShape.shp f) → BTake.patB f y = true := by
        intro y hy0 hy1
        rcases h with rfl | rfl
        · exact decide_eq_true (by have : y < 2 * 2147483648 := hy1; show y < 4294967296; omega)
        · rfl
      have hpx := hpat x h0 h1
      have hpc := hpat c hc0.1 hc0.2
      have hn0 := Int.emod_nonneg x (show BSign.signV (BShape.shp f) ≠ 0 by omega)
      have hqn : (BShape.shp f).2.2.2 = if f = 32 then 2143289345 else 9221120237041090561 := by rcases h with rfl | rfl <;> rfl
      simp only [vlet_eq]
      rw [gP ⟨hc0.1, by omega⟩]
      have fin : ∀ w v : Int, v = w → J14 fn x f (BSign.signV (BShape.shp f)) w true v = some [D.s (.sc (.bool true))] ∨ (w ≠ (BShape.shp f).2.2.2 ∧ fn ≠ 5) := by
        intro w v hv
        subst hv
        by_cases hq : v = (BShape.shp f).2.2.2
        · left
          rw [J14_eq, gP trivial]
          simp only [vlet_eq]
          rw [hfmt, cond_true, bN_neg rfl, Bool.not_true, bF, J17_eq, bE_pos hq, beq_self_eq_true]
        · by_cases h5 : fn = 5
          · left
            rw [J14_eq, gP trivial]
            simp only [vlet_eq]
            rw [hfmt, cond_true, bN_neg rfl, Bool.not_true, bF, J17_eq, bE_neg hq, bE_pos h5, beq_self_eq_true]
          · exact .inr ⟨hq, h5⟩
      have opp : ∀ w v : Int, UExact.exactR f fn x = (w, true, 0) → w ≠ (BShape.shp f).2.2.2 → fn ≠ 5 → x % BSign.signV (BShape.shp f) < BInf.infV (BShape.shp f) → w = bitsI .xor .u64 v (BSign.signV (BShape.shp f)) → J14 fn x f (BSign.signV (BShape.shp f)) w true v = some [D.s (.sc (.bool true))] := by
        intro w v hw hq h5 hfin hv
        rw [J14_eq, gP trivial]
        simp only [vlet_eq]
        rw [hfmt, cond_true, bN_neg rfl, Bool.not_true, bF, J17_eq, bE_neg hq, bE_neg h5, J19_eq, bE_pos hv]
        rcases h with rfl | rfl
        · have hx32 : x < 4294967296 := by have : x < 2 * 2147483648 := h1; omega
          obtain ⟨a1, a2, a3⟩ := wid_ok hfn h0 hx32 hfin hw h5
          rw [gP ⟨hx64, fun _ => ⟨a1, a2⟩⟩, a3]
        · rw [gP ⟨hx64, fun h => absurd h (by omega)⟩]
          rfl
      have ends : ∀ w v : Int, UExact.exactR f fn x = (w, true, 0) → UExact.exactR f fn c = (v, true, 0) → J14 fn x f (BSign.signV (BShape.shp f)) w true v = some [D.s (.sc (.bool true))] → bcase ((UExact.exactR f fn x).2.2 != 0) (some [D.s (.sc (.bool false))]) (bcase ((UExact.exactR f fn c).2.2 != 0) (some [D.s (.sc (.bool false))]) (bcase ((UExact.exactR f fn x).2.1 != (UExact.exactR f fn c).2.1) (some [D.s (.sc (.bool false))]) (J14 fn x f (BSign.signV (BShape.shp f)) (UExact.exactR f fn x).1 (UExact.exactR f fn x).2.1 (UExact.exactR f fn c).1))) = some [D.s (.sc (.bool true))] := by
        intro w v hw hv hj
        rw [hw, hv]
        exact hj
      rcases (show BInf.infV (BShape.shp f) ≤ x % BSign.signV (BShape.shp f) ∨ x % BSign.signV (BShape.shp f) = 0 ∨ (0 < x % BSign.signV (BShape.shp f) ∧ x % BSign.signV (BShape.shp f) < BInf.infV (BShape.shp f)) by omega) with hb | hb | ⟨hb1, hb2⟩
      · have e1 := ex_top h hfn hpx hb
        have e2 := ex_top (b := c) h hfn hpc (by rw [hcm]; exact hb)
        refine ends _ _ e1 e2 ?_
        rcases fin _ _ rfl with h | ⟨h, _⟩
        · exact h
        · exact absurd rfl h
      · have e1 := ex_zero h hfn hpx hb
        have e2 := ex_zero (b := c) h hfn hpc (by rw [hcm]; exact hb)
        refine ends _ _ e1 e2 ?_
        by_cases h5 : fn = 5
        · rw [if_pos h5, if_pos h5]
          rcases fin _ _ rfl with h | ⟨_, h⟩
          · exact h
          · exact absurd h5 h
        · rw [if_neg h5, if_neg h5]
          refine opp _ _ (by rw [e1, if_neg h5]) ?_ h5 (by omega) hcc.symm
          rw [hqn]
          rcases h with rfl | rfl
          · rw [if_pos rfl]
            rw [show BSign.signV (BShape.shp 32) = 2147483648 from rfl] at hb
            omega
          · rw [if_neg (by omega)]
            rw [show BSign.signV (BShape.shp 64) = 9223372036854775808 from rfl] at hb
            omega
      · have e1 := ex_fin h hfn hpx hb1 hb2
        have e2 := ex_fin (b := c) h hfn hpc (by rw [hcm]; exact hb1) (by rw [hcm]; exact hb2)
        rw [num_flip hcm hcs] at e2
        have hodd := num_odd h h0 hb1
        obtain ⟨n1, n2, n3⟩ := ex_neg (fn := fn) (e := (UExact.numF f x).2) hodd
        rw [n1, n2] at e2
        cases hok : (UExact0.exV fn (UExact.numF f x)).2.2 with
        | false =>
          rw [hok, if_neg (by simp)] at e1
          rw [show (UExact0.exV fn ((UExact.numF f x).1, (UExact.numF f x).2)).2.2 = false from hok, if_neg (by simp)] at e2
          rw [e1, e2]
          show J14 fn x f (BSign.signV (BShape.shp f)) 0 false 0 = _
          rw [J14_eq, gP trivial]
          simp only [vlet_eq]
          rw [hfmt]
          rfl
        | true =>
          have n3 := n3 hok
          rw [hok, if_pos rfl] at e1
          rw [show (UExact0.exV fn ((UExact.numF f x).1, (UExact.numF f x).2)).2.2 = true from hok, if_pos rfl, n3] at e2
          refine ends _ _ e1 e2 ?_
          have hbd := pat_bd (s := (UExact0.exV fn (UExact.numF f x)).1) h (UExact0.exV fn (UExact.numF f x)).2.1
          by_cases h5 : fn = 5
          · rw [if_pos h5]
            rcases fin _ _ rfl with h | ⟨_, h⟩
            · exact h
            · exact absurd h5 h
          · rw [if_neg h5]
            refine opp _ _ e1 hbd.2.2 h5 hb2 ?_
            have hbd2 := pat_bd (s := (UExact0.exV fn (UExact.numF f x)).1) h (!(UExact0.exV fn (UExact.numF f x)).2.1)
            rw [flip_bit h hbd2.1 hbd2.2.1]
            have hpf := pat_flip (s := (UExact0.exV fn (UExact.numF f x)).1) h (!(UExact0.exV fn (UExact.numF f x)).2.1)
            rw [Bool.not_not] at hpf
            exact hpf
noncomputable def sp (_fn b : Int) (_single : Bool) : Prop × List D := (0 ≤ b ∧ b < 18446744073709551616, [.s (.sc (.bool true))])
theorem spec (fn b : Int) (single : Bool) (h : (sp fn b single).1) : evalFn E Tryz.f16 cod [(pN .i64).put fn, (pN .u64).put b, pB.put single] = some (sp fn b single).2 := by
  obtain ⟨h0, h1⟩ := h
  refine (start fn b single).trans ?_
  rw [gP trivial]
  cases single with
  | true =>
    rw [bT, Int.tmod_eq_emod_of_nonneg h0]
    exact main (f := 32) (.inl rfl) (by omega) (by show b % 4294967296 < 2 * 2147483648; omega)
  | false =>
    rw [bF]
    exact main (f := 64) (.inr rfl) h0 (by show b < 2 * 9223372036854775808; omega)

noncomputable def orc : Orc := orc3 (pN .i64) (pN .u64) pB sp
theorem fnok : FnOk Tryz.prog E 16 Tryz.f16 cod := fnOk ty_ok mixed (callsOk_of _ rfl (orcs_cons LAwake.ok (orcs_cons UExact.ok (orcs_cons BQuiet.ok (orcs_cons LWidened.ok orcs_nil)))) (ext_ok)) Tryz.func16 rfl rfl rfl
theorem ok : OrcOk Tryz.prog base.glob 16 orc := fnok.ok3 rfl spec
end LawMirrors
end Go.Proofs.YtknafopmgaolmaaGreatDoor.W

/- What is handed in, as the abstract interpreter reads it; and a table that lies ready. -/
namespace Go.Proofs.YtknafopmgaolmaaGreatDoor.AI
open Go Go.RowKit Go.ChangeShapes Go.WideShapes Go.ChangeAt

abbrev noX : Nat → Prop := fun _ => False
theorem cell_at {w : World} {a : Addr} {v : Value} (h : w.cell? a = some v) : a = ⟨a.block, a.off, none⟩ ∧ a.block < w.heap.size := by
  unfold World.cell? at h
  split at h
  · rename_i c t fr hb
    split at h
    · cases h
    · rename_i hs
      obtain ⟨b, o, s⟩ := a
      cases s with
      | some x => simp at hs
      | none => exact ⟨rfl, (Array.getElem?_eq_some_iff.1 hb).1⟩
  · cases h
theorem add_at {b o : Nat} (i : Nat) : (⟨b, o, none⟩ : Addr).add i = ⟨b, o + i, none⟩ := by
  unfold Addr.add
  split
  · rename_i h; subst h; rfl
  · rfl

section
variable {H : Type} {enc : TypeId × Value → H} {P : Program} {w : World} {held : Bool} {sp : Nat → Bool}
/-- A slice of whole numbers that is handed in. -/
theorem rep_ints {t e : TypeId} {k : IntKind} {fuel : Nat} {A : Option Addr} {len cap : Nat} {x : DataW H × List MemPlace} (ht : P.underlying t = some (.slice e)) (he : P.underlying e = some (.int k)) (hc : P.cellsOf e = 1)
    (h : DataW.trod enc P w 0 sp held fuel t [.slice A len cap] = some x) : ∃ ns : List Int, RepD noX w (.s (.ints k ns)) (.slice A len cap) ∧ ns.length ≤ 9223372036854775807 ∧ ∀ n ∈ ns, (Lit.int k n).wf = true := by
  rcases open_ints ht he hc h with ⟨hcs, _⟩ | ⟨a, l, c, zs, hcs, _, hl, hm, hz, _, hcell, hw⟩
  · simp at hcs
    obtain ⟨rfl, rfl, rfl⟩ := hcs
    exact ⟨[], ⟨none, 0, rfl, by simp, fun i n h => by simp at h⟩, by simp, by simp⟩
  · simp at hcs
    obtain ⟨rfl, rfl, rfl⟩ := hcs
    have hzl : len ≤ zs.length := by rw [hz]; split <;> omega
    have hlen : (zs.take len).length = len := by rw [List.length_take]; omega
    have hm2 : cap ≤ 9223372036854775807 := hm
    refine ⟨zs.take len, ⟨some a, cap, by rw [hlen], by rw [hlen]; exact hl, fun i n hn => ?_⟩, by omega, fun n hn => hw n (List.mem_of_mem_take hn)⟩
    have hi : i < len := by
      have := (List.getElem?_eq_some_iff.1 hn).1
      omega
    have h0 := hcell 0 (by omega)
    have ha : a.add 0 = a := by unfold Addr.add; rw [if_pos rfl]
    rw [ha] at h0
    obtain ⟨e1, e2⟩ := cell_at h0
    refine ⟨a.block, a.off, by rw [← e1], e2, id, ?_⟩
    have h1 := hcell i (by omega)
    rw [e1, add_at] at h1
    rw [h1]
    have : zs.getD i 0 = n := by
      rw [List.getElem?_take, if_pos hi] at hn
      rw [List.getD_eq_getElem?_getD, hn]
      rfl
    rw [this]

/-- Are a struct's fields whole numbers of these kinds, one cell each? -/
def fieldsB (P : Program) (fs : Array Field) (ks : List IntKind) : Bool :=
  Nat.beq fs.size ks.length && (List.range ks.length).all fun i => match fs[i]?, ks[i]? with
    | some f, some k => (match P.underlying f.type with | some (.int k') => decide (k' = k) | _ => false) && (Nat.beq (P.cellsOf f.type) 1 && Nat.beq f.offset i)
    | _, _ => false
def numOfV : Value → Int
  | .int _ n => n
  | _ => 0
def wfAll (ks : List IntKind) (ns : List Int) : Prop := ns.length = ks.length ∧ ∀ (i : Nat) k, ks[i]? = some k → (Lit.int k (ns.getD i 0)).wf = true
theorem struct_ints {t : TypeId} {fs : Array Field} {ks : List IntKind} {fuel : Nat} {cs : List Value} {x : DataW H × List MemPlace} (ht : P.underlying t = some (.struct fs)) (hk : fieldsB P fs ks = true) (hc : P.cellsOf t = ks.length)
    (h : DataW.trod enc P w 0 sp held fuel t cs = some x) : ∃ ns : List Int, wfAll ks ns ∧ cs.length = ks.length ∧ ∀ (i : Nat) k, ks[i]? = some k → cs[i]? = some (.int k (ns.getD i 0)) := by
  obtain ⟨xs, n, _, _, hl, hxl, hf⟩ := DataW.trod_struct ht h
  unfold fieldsB at hk
  rw [Bool.and_eq_true] at hk
  have hsz := Nat.eq_of_beq_eq_true hk.1
  have key : ∀ (i : Nat) k, ks[i]? = some k → ∃ m, cs[i]? = some (.int k m) ∧ (Lit.int k m).wf = true := by
    intro i k hi
    have hlt : i < ks.length := (List.getElem?_eq_some_iff.1 hi).1
    have h1 := List.all_eq_true.1 hk.2 i (List.mem_range.2 hlt)
    have hfi : fs[i]? = some fs[i] := Array.getElem?_eq_getElem (by omega)
    rw [hfi, hi] at h1
    simp only [Bool.and_eq_true] at h1
    obtain ⟨h2, h3, h4⟩ := h1
    have h3 := Nat.eq_of_beq_eq_true h3
    have h4 := Nat.eq_of_beq_eq_true h4
    have h5 := hf i _ hfi
    rw [h3, h4] at h5
    have hx : xs[i]? = some xs[i] := List.getElem?_eq_getElem (by omega)
    rw [hx] at h5
    cases hu : P.underlying fs[i].type with
    | none => rw [hu] at h2; cases h2
    | some d =>
      rw [hu] at h2
      cases d with
      | int k' =>
        have hkk : k' = k := of_decide_eq_true h2
        subst hkk
        obtain ⟨m, e1, _, e3⟩ := DataW.trod_int hu h5
        refine ⟨m, ?_, e3⟩
        have : ((cs.drop i).take 1)[0]? = some (.int k' m) := by rw [e1]; rfl
        rw [List.getElem?_take, if_pos (by omega), List.getElem?_drop] at this
        simpa using this
      | _ => cases h2
  refine ⟨cs.map numOfV, ⟨by rw [List.length_map, hl, hc], fun i k hi => ?_⟩, by rw [hl, hc], fun i k hi => ?_⟩
  · obtain ⟨m, e1, e2⟩ := key i k hi
    have : (cs.map numOfV).getD i 0 = m := by rw [List.getD_eq_getElem?_getD, List.getElem?_map, e1]; rfl
    rw [this]; exact e2
  · obtain ⟨m, e1, e2⟩ := key i k hi
    have : (cs.map numOfV).getD i 0 = m := by rw [List.getD_eq_getElem?_getD, List.getElem?_map, e1]; rfl
    rw [this]; exact e1

/-- The cells of such a struct. -/
def rowS (ks : List IntKind) (ns : List Int) : List S := (List.range ks.length).map fun i => S.sc (.int (ks.getD i .i64) (ns.getD i 0))
/-- A slice of such structs that is handed in. -/
theorem rep_rows {t e : TypeId} {fs : Array Field} {ks : List IntKind} {fuel : Nat} {A : Option Addr} {len cap : Nat} {x : DataW H × List MemPlace} (ht : P.underlying t = some (.slice e)) (he : P.underlying e = some (.struct fs)) (hk : fieldsB P fs ks = true) (hc : P.cellsOf e = ks.length) (hk0 : 0 < ks.length)
    (h : DataW.trod enc P w 0 sp held fuel t [.slice A len cap] = some x) : ∃ g : Nat → List Int, RepD noX w (.rows ks.length len fun i => rowS ks (g i)) (.slice A len cap) ∧ len ≤ 9223372036854775807 ∧ ∀ i, i < len → wfAll ks (g i) := by
  rcases DataW.trod_slice ht h with ⟨hcs, _⟩ | ⟨a, l, c, elems, rest, n, _, hcs, _, _, hl, hm, hel, hcell, _, _⟩
  · simp at hcs
    obtain ⟨rfl, rfl, rfl⟩ := hcs
    exact ⟨fun _ => [], ⟨none, 0, rfl, by simp, fun i hi => by omega⟩, by simp, fun i hi => by omega⟩
  · simp at hcs
    obtain ⟨rfl, rfl, rfl⟩ := hcs
    have one : ∀ i, i < len → ∃ ns : List Int, wfAll ks ns ∧ ∀ (j : Nat) k, ks[j]? = some k → w.cell? (a.add (i * ks.length) |>.add j) = some (.int k (ns.getD j 0)) := by
      intro i hi
      have h1 := hcell i hi
      rw [hc] at h1
      have hx : elems[i]? = some elems[i] := List.getElem?_eq_getElem (by omega)
      rw [hx] at h1
      obtain ⟨cs, h2, h3⟩ := Option.bind_eq_some_iff.1 h1
      obtain ⟨ns, h4, h5, h6⟩ := struct_ints he hk hc h3
      refine ⟨ns, h4, fun j k hj => ?_⟩
      have hlt : j < ks.length := (List.getElem?_eq_some_iff.1 hj).1
      rw [(World.cells?_some h2).2.2 j hlt, h6 j k hj]
    obtain ⟨g, hg⟩ : ∃ g : Nat → List Int, ∀ i, i < len → wfAll ks (g i) ∧ ∀ (j : Nat) k, ks[j]? = some k → w.cell? (a.add (i * ks.length) |>.add j) = some (.int k ((g i).getD j 0)) := by
      refine ⟨fun i => if hi : i < len then Classical.choose (one i hi) else [], fun i hi => ?_⟩
      simp only [dif_pos hi]
      exact Classical.choose_spec (one i hi)
    have hm2 : cap ≤ 9223372036854775807 := hm
    refine ⟨g, ⟨some a, cap, rfl, hl, fun i hi => ?_⟩, by omega, fun i hi => (hg i hi).1⟩
    refine ⟨by unfold rowS; simp, ?_⟩
    have hk1 : ks[0]? = some ks[0] := List.getElem?_eq_getElem hk0
    have h0 := (hg 0 (by omega)).2 0 _ hk1
    rw [Nat.zero_mul, show a.add 0 = a by unfold Addr.add; rw [if_pos rfl], show a.add 0 = a by unfold Addr.add; rw [if_pos rfl]] at h0
    obtain ⟨e1, e2⟩ := cell_at h0
    refine ⟨a.block, a.off, by rw [← e1], fun j s hs => ⟨e2, id, ?_⟩⟩
    unfold rowS at hs
    rw [List.getElem?_map] at hs
    obtain ⟨j', hj1, rfl⟩ := Option.map_eq_some_iff.1 hs
    have hjl : j < ks.length := by have := (List.getElem?_eq_some_iff.1 hj1).1; simpa using this
    have : j' = j := by rw [List.getElem?_range hjl] at hj1; exact (Option.some.inj hj1).symm
    subst this
    have hkj : ks[j']? = some ks[j'] := List.getElem?_eq_getElem hjl
    have h2 := (hg i hi).2 j' _ hkj
    rw [e1, add_at, add_at] at h2
    refine ⟨_, h2, ?_⟩
    have : ks.getD j' .i64 = ks[j'] := by rw [List.getD_eq_getElem?_getD, hkj]; rfl
    rw [this]
    exact ⟨rfl, rfl⟩

/-- A table of whole numbers that lies ready. -/
theorem glob_ints {name : String} {g : Nat} {t e : TypeId} {k : IntKind} {n fuel : Nat} {ns : List Int} {cs : Array Value} {p : List MemPlace} (hg : P.globalNamed name = some g) (hv : w.var? P name = some cs) (ht : P.underlying t = some (.array n e)) (he : P.underlying e = some (.int k)) (hc : P.cellsOf e = 1) (hn : ns.length = n) (hn0 : 0 < n)
    (hd : DataW.trod enc P w 0 sp held fuel t cs.toList = some (.agg (ns.map fun m => .lit (.int k m)), p)) : g < w.heap.size ∧ ¬ noX g ∧ CellsAt noX w g 0 (intCells k ns) := by
  obtain ⟨xs, m1, _, hx, _, hxl, hel⟩ := DataW.trod_array ht hd
  simp only [Prod.mk.injEq, DataW.agg.injEq] at hx
  have cell : ∀ i v, ns[i]? = some v → w.cell? ⟨g, i, none⟩ = some (.int k v) := by
    intro i v hi
    have hlt : i < n := by have := (List.getElem?_eq_some_iff.1 hi).1; omega
    have h1 := hel i hlt
    have hxi : xs[i]? = some xs[i] := List.getElem?_eq_getElem (by omega)
    rw [hxi, hc, Nat.mul_one] at h1
    obtain ⟨m, e1, e2, _⟩ := DataW.trod_int he h1
    have h2 := congrArg (fun l => l[i]?) hx.1
    simp only [List.getElem?_map, hi, hxi, e2, Option.map_some] at h2
    have hmv : v = m := by simpa using h2
    subst hmv
    have h3 : ((cs.toList.drop i).take 1)[0]? = some (.int k v) := by rw [e1]; rfl
    rw [List.getElem?_take, if_pos (by omega), List.getElem?_drop] at h3
    have h4 := World.var?_cell hg hv i
    rw [h4]
    simpa using h3
  have h0 : ns[0]? = some ns[0] := List.getElem?_eq_getElem (by omega)
  have hb := (cell_at (cell 0 _ h0)).2
  refine ⟨hb, id, fun i s hs => ⟨hb, id, ?_⟩⟩
  unfold intCells at hs
  rw [List.getElem?_map] at hs
  obtain ⟨v, hv1, rfl⟩ := Option.map_eq_some_iff.1 hs
  refine ⟨_, by rw [Nat.zero_add]; exact cell i v hv1, rfl, rfl⟩
end
theorem wf64 {n : Int} (h : (Lit.int .u64 n).wf = true) : 0 ≤ n ∧ n < 18446744073709551616 := by
  have h2 : IntKind.u64.min ≤ n ∧ n ≤ IntKind.u64.max := by simpa [Lit.wf] using h
  have e1 : IntKind.u64.min = 0 := rfl
  have e2 : IntKind.u64.max = 18446744073709551615 := rfl
  omega
theorem wfi {n : Int} (h : (Lit.int .i64 n).wf = true) : -9223372036854775808 ≤ n ∧ n < 9223372036854775808 := by
  have h2 : IntKind.i64.min ≤ n ∧ n ≤ IntKind.i64.max := by simpa [Lit.wf] using h
  have e1 : IntKind.i64.min = -9223372036854775808 := rfl
  have e2 : IntKind.i64.max = 9223372036854775807 := rfl
  omega
/-- A call that answers true. -/
theorem calls_true {P : Program} {G : Nat → Option (IntKind × List Int)} {f : FuncId} {ds : List D} (hc : Contract P G f ds [.s (.sc (.bool true))]) {w : World} {vs : List Value} (hG : GlobOk G noX w) (hl : ds.length = vs.length)
    (hr : ∀ (i : Nat) (d : D) (v : Value), ds[i]? = some d → vs[i]? = some v → RepD noX w d v) : Calls P f vs.toArray w fun e w' => e = .returned (.bool true) ∧ Below w.heap.size w w' := by
  refine (hc noX w vs (fun _ h => h.elim) hG hl hr).mono ?_
  rintro e w' ⟨vs', rfl, hb, g, hl, _, hr⟩
  match vs', hl with
  | [v], _ =>
    have := hr 0 _ v rfl rfl
    obtain ⟨rfl, _⟩ := this
    exact ⟨rfl, hb⟩
end Go.Proofs.YtknafopmgaolmaaGreatDoor.AI

