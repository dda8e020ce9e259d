/- Texts of the claim on TurnMirrors, in their order: FDiv64, FNDivWord, FVShifted, FVTrial, FMul64, FVTake, FVGive, FVLong, FQuoRem, FMMod, FMSmall, FUMod4, FUReduce, FBQuiet, FUKnown, FBClass, FBClassOf, FUInfinity, FBMade, FBJoin, FUSigned, FUPattern, FUPlace, FUExact0, FUExact, FUPoint, FUEnclose, FSame, FSame5, FLSame, FNorm, FMk. -/
import Derived.Test.YtknafopmgaolmaaGreatDoorBTurnMirrors3
/- math/bits.Div64 -/
namespace Go.Proofs.YtknafopmgaolmaaGreatDoor.W
open Go Go.Proofs.YtknafopmgaolmaaGreatDoor.AI Go.Proofs.YtknafopmgaolmaaGreatDoor.M
namespace Div64
noncomputable def E : Env := { ({ base with C := callsOf [(230, Lz64.orc)] }) with nt := 135, own := [], keep := fun k => (tlook [(24, [2, 8, 9, 10, 14, 15, 16, 17, 18]), (17, [2, 8, 9, 10, 11, 13, 14, 15, 16])] k).getD [], cut := tlook [(3, [0, 1, 2]), (5, [0, 1, 2]), (18, [2, 8, 9, 10, 11, 13, 14, 15, 16]), (21, [2, 8, 9, 10, 11, 13, 14, 15]), (25, [2, 8, 9, 10, 14, 15, 16, 17, 18]), (28, [2, 8, 14, 15, 17, 18])] }
noncomputable def cod : Code := (Go.Proofs.Tryz.f259.body).getD .skip
theorem nok : namesOk E cod = true := by kernel_rfl
noncomputable def J3 (x0 : Int) (x1 : Int) (x2 : Int) : Option (List D) := ctO E Go.Proofs.Tryz.f259 cod 3 [(A.v (V.one (L.s (S.sc (Value.int IntKind.u64 x0)))), none), (A.v (V.one (L.s (S.sc (Value.int IntKind.u64 x1)))), none), (A.v (V.one (L.s (S.sc (Value.int IntKind.u64 x2)))), none)]
noncomputable def J5 (x0 : Int) (x1 : Int) (x2 : Int) : Option (List D) := ctO E Go.Proofs.Tryz.f259 cod 5 [(A.v (V.one (L.s (S.sc (Value.int IntKind.u64 x0)))), none), (A.v (V.one (L.s (S.sc (Value.int IntKind.u64 x1)))), none), (A.v (V.one (L.s (S.sc (Value.int IntKind.u64 x2)))), none)]
noncomputable def L17 (x0 : Int) (x1 : Int) (x2 : Int) (x3 : Int) (x4 : Int) (x5 : Int) (x6 : Int) (x7 : Int) (x8 : Int) : Option (List D) := lpO E Go.Proofs.Tryz.f259 cod 17 [(A.v (V.one (L.s (S.sc (Value.int IntKind.u64 x0)))), none), (A.v (V.one (L.s (S.sc (Value.int IntKind.u64 x1)))), none), (A.v (V.one (L.s (S.sc (Value.int IntKind.u64 x2)))), none), (A.v (V.one (L.s (S.sc (Value.int IntKind.u64 x3)))), none), (A.v (V.one (L.s (S.sc (Value.int IntKind.u64 x4)))), none), (A.v (V.one (L.s (S.sc (Value.int IntKind.u64 x5)))), none), (A.v (V.one (L.s (S.sc (Value.int IntKind.u64 x6)))), none), (A.v (V.one (L.s (S.sc (Value.int IntKind.u64 x7)))), none), (A.v (V.one (L.s (S.sc (Value.int IntKind.u64 x8)))), none)]
noncomputable def J18 (x0 : Int) (x1 : Int) (x2 : Int) (x3 : Int) (x4 : Int) (x5 : Int) (x6 : Int) (x7 : Int) (x8 : Int) : Option (List D) := ctO E Go.Proofs.Tryz.f259 cod 18 [(A.v (V.one (L.s (S.sc (Value.int IntKind.u64 x0)))), none), (A.v (V.one (L.s (S.sc (Value.int IntKind.u64 x1)))), none), (A.v (V.one (L.s (S.sc (Value.int IntKind.u64 x2)))), none), (A.v (V.one (L.s (S.sc (Value.int IntKind.u64 x3)))), none), (A.v (V.one (L.s (S.sc (Value.int IntKind.u64 x4)))), none), (A.v (V.one (L.s (S.sc (Value.int IntKind.u64 x5)))), none), (A.v (V.one (L.s (S.sc (Value.int IntKind.u64 x6)))), none), (A.v (V.one (L.s (S.sc (Value.int IntKind.u64 x7)))), none), (A.v (V.one (L.s (S.sc (Value.int IntKind.u64 x8)))), none)]
noncomputable def J21 (x0 : Int) (x1 : Int) (x2 : Int) (x3 : Int) (x4 : Int) (x5 : Int) (x6 : Int) (x7 : Int) : Option (List D) := ctO E Go.Proofs.Tryz.f259 cod 21 [(A.v (V.one (L.s (S.sc (Value.int IntKind.u64 x0)))), none), (A.v (V.one (L.s (S.sc (Value.int IntKind.u64 x1)))), none), (A.v (V.one (L.s (S.sc (Value.int IntKind.u64 x2)))), none), (A.v (V.one (L.s (S.sc (Value.int IntKind.u64 x3)))), none), (A.v (V.one (L.s (S.sc (Value.int IntKind.u64 x4)))), none), (A.v (V.one (L.s (S.sc (Value.int IntKind.u64 x5)))), none), (A.v (V.one (L.s (S.sc (Value.int IntKind.u64 x6)))), none), (A.v (V.one (L.s (S.sc (Value.int IntKind.u64 x7)))), none)]
noncomputable def L24 (x0 : Int) (x1 : Int) (x2 : Int) (x3 : Int) (x4 : Int) (x5 : Int) (x6 : Int) (x7 : Int) (x8 : Int) : Option (List D) := lpO E Go.Proofs.Tryz.f259 cod 24 [(A.v (V.one (L.s (S.sc (Value.int IntKind.u64 x0)))), none), (A.v (V.one (L.s (S.sc (Value.int IntKind.u64 x1)))), none), (A.v (V.one (L.s (S.sc (Value.int IntKind.u64 x2)))), none), (A.v (V.one (L.s (S.sc (Value.int IntKind.u64 x3)))), none), (A.v (V.one (L.s (S.sc (Value.int IntKind.u64 x4)))), none), (A.v (V.one (L.s (S.sc (Value.int IntKind.u64 x5)))), none), (A.v (V.one (L.s (S.sc (Value.int IntKind.u64 x6)))), none), (A.v (V.one (L.s (S.sc (Value.int IntKind.u64 x7)))), none), (A.v (V.one (L.s (S.sc (Value.int IntKind.u64 x8)))), none)]
noncomputable def J25 (x0 : Int) (x1 : Int) (x2 : Int) (x3 : Int) (x4 : Int) (x5 : Int) (x6 : Int) (x7 : Int) (x8 : Int) : Option (List D) := ctO E Go.Proofs.Tryz.f259 cod 25 [(A.v (V.one (L.s (S.sc (Value.int IntKind.u64 x0)))), none), (A.v (V.one (L.s (S.sc (Value.int IntKind.u64 x1)))), none), (A.v (V.one (L.s (S.sc (Value.int IntKind.u64 x2)))), none), (A.v (V.one (L.s (S.sc (Value.int IntKind.u64 x3)))), none), (A.v (V.one (L.s (S.sc (Value.int IntKind.u64 x4)))), none), (A.v (V.one (L.s (S.sc (Value.int IntKind.u64 x5)))), none), (A.v (V.one (L.s (S.sc (Value.int IntKind.u64 x6)))), none), (A.v (V.one (L.s (S.sc (Value.int IntKind.u64 x7)))), none), (A.v (V.one (L.s (S.sc (Value.int IntKind.u64 x8)))), none)]
noncomputable def J28 (x0 : Int) (x1 : Int) (x2 : Int) (x3 : Int) (x4 : Int) (x5 : Int) : Option (List D) := ctO E Go.Proofs.Tryz.f259 cod 28 [(A.v (V.one (L.s (S.sc (Value.int IntKind.u64 x0)))), none), (A.v (V.one (L.s (S.sc (Value.int IntKind.u64 x1)))), none), (A.v (V.one (L.s (S.sc (Value.int IntKind.u64 x2)))), none), (A.v (V.one (L.s (S.sc (Value.int IntKind.u64 x3)))), none), (A.v (V.one (L.s (S.sc (Value.int IntKind.u64 x4)))), none), (A.v (V.one (L.s (S.sc (Value.int IntKind.u64 x5)))), none)]
theorem start (a : Int) (b : Int) (c : Int) : evalFn E Go.Proofs.Tryz.f259 cod [D.s (S.sc (Value.int IntKind.u64 a)), D.s (S.sc (Value.int IntKind.u64 b)), D.s (S.sc (Value.int IntKind.u64 c))] = bcase (c == (0 : Int)) none (Div64.J3 a b c) := (evalFn_J rfl nok _).trans (by kernel_rfl)
theorem J3_eq (x0 : Int) (x1 : Int) (x2 : Int) : J3 x0 x1 x2 = bcase (decide (x2 ≤ x0)) none (Div64.J5 x0 x1 x2) := (cutAt_J rfl nok 3 _).trans (by kernel_rfl)
theorem J5_eq (x0 : Int) (x1 : Int) (x2 : Int) : J5 x0 x1 x2 = bcase (x0 == (0 : Int)) (if x2 = (0 : Int) then none else if x2 = (0 : Int) then none else some [D.s (S.sc (Value.int IntKind.u64 (IntKind.u64.wrap (x1.tdiv x2)))), D.s (S.sc (Value.int IntKind.u64 (x1.tmod x2)))]) (gif ((0 : Int) ≤ x2 ∧ x2 < (18446744073709551616 : Int)) (if IntKind.u64.wrap ((64 : Int) - (↑(bl x2.toNat) : Int)) < (0 : Int) then none else if IntKind.u64.wrap ((64 : Int) - (↑(bl x2.toNat) : Int)) < (0 : Int) then none else if IntKind.u64.wrap ((64 : Int) - IntKind.u64.wrap ((64 : Int) - (↑(bl x2.toNat) : Int))) < (0 : Int) then none else if IntKind.u64.wrap ((64 : Int) - (↑(bl x2.toNat) : Int)) < (0 : Int) then none else if IntKind.u64.wrap (x2 * (↑((2 : Nat) ^ min (IntKind.u64.wrap ((64 : Int) - (↑(bl x2.toNat) : Int))).toNat (64 : Nat)) : Int)) / (4294967296 : Int) = (0 : Int) then none else Div64.L17 (IntKind.u64.wrap (x2 * (↑((2 : Nat) ^ min (IntKind.u64.wrap ((64 : Int) - (↑(bl x2.toNat) : Int))).toNat (64 : Nat)) : Int))) (IntKind.u64.wrap ((64 : Int) - (↑(bl x2.toNat) : Int))) (IntKind.u64.wrap (x2 * (↑((2 : Nat) ^ min (IntKind.u64.wrap ((64 : Int) - (↑(bl x2.toNat) : Int))).toNat (64 : Nat)) : Int)) / (4294967296 : Int)) (bitsI BinOp.and IntKind.u64 (IntKind.u64.wrap (x2 * (↑((2 : Nat) ^ min (IntKind.u64.wrap ((64 : Int) - (↑(bl x2.toNat) : Int))).toNat (64 : Nat)) : Int))) (4294967295 : Int)) (bitsI BinOp.or IntKind.u64 (IntKind.u64.wrap (x0 * (↑((2 : Nat) ^ min (IntKind.u64.wrap ((64 : Int) - (↑(bl x2.toNat) : Int))).toNat (64 : Nat)) : Int))) (x1 / (↑((2 : Nat) ^ min (IntKind.u64.wrap ((64 : Int) - IntKind.u64.wrap ((64 : Int) - (↑(bl x2.toNat) : Int)))).toNat (64 : Nat)) : Int))) (IntKind.u64.wrap (x1 * (↑((2 : Nat) ^ min (IntKind.u64.wrap ((64 : Int) - (↑(bl x2.toNat) : Int))).toNat (64 : Nat)) : Int)) / (4294967296 : Int)) (bitsI BinOp.and IntKind.u64 (IntKind.u64.wrap (x1 * (↑((2 : Nat) ^ min (IntKind.u64.wrap ((64 : Int) - (↑(bl x2.toNat) : Int))).toNat (64 : Nat)) : Int))) (4294967295 : Int)) (IntKind.u64.wrap ((bitsI BinOp.or IntKind.u64 (IntKind.u64.wrap (x0 * (↑((2 : Nat) ^ min (IntKind.u64.wrap ((64 : Int) - (↑(bl x2.toNat) : Int))).toNat (64 : Nat)) : Int))) (x1 / (↑((2 : Nat) ^ min (IntKind.u64.wrap ((64 : Int) - IntKind.u64.wrap ((64 : Int) - (↑(bl x2.toNat) : Int)))).toNat (64 : Nat)) : Int))).tdiv (IntKind.u64.wrap (x2 * (↑((2 : Nat) ^ min (IntKind.u64.wrap ((64 : Int) - (↑(bl x2.toNat) : Int))).toNat (64 : Nat)) : Int)) / (4294967296 : Int)))) (IntKind.u64.wrap (bitsI BinOp.or IntKind.u64 (IntKind.u64.wrap (x0 * (↑((2 : Nat) ^ min (IntKind.u64.wrap ((64 : Int) - (↑(bl x2.toNat) : Int))).toNat (64 : Nat)) : Int))) (x1 / (↑((2 : Nat) ^ min (IntKind.u64.wrap ((64 : Int) - IntKind.u64.wrap ((64 : Int) - (↑(bl x2.toNat) : Int)))).toNat (64 : Nat)) : Int)) - IntKind.u64.wrap (IntKind.u64.wrap ((bitsI BinOp.or IntKind.u64 (IntKind.u64.wrap (x0 * (↑((2 : Nat) ^ min (IntKind.u64.wrap ((64 : Int) - (↑(bl x2.toNat) : Int))).toNat (64 : Nat)) : Int))) (x1 / (↑((2 : Nat) ^ min (IntKind.u64.wrap ((64 : Int) - IntKind.u64.wrap ((64 : Int) - (↑(bl x2.toNat) : Int)))).toNat (64 : Nat)) : Int))).tdiv (IntKind.u64.wrap (x2 * (↑((2 : Nat) ^ min (IntKind.u64.wrap ((64 : Int) - (↑(bl x2.toNat) : Int))).toNat (64 : Nat)) : Int)) / (4294967296 : Int))) * (IntKind.u64.wrap (x2 * (↑((2 : Nat) ^ min (IntKind.u64.wrap ((64 : Int) - (↑(bl x2.toNat) : Int))).toNat (64 : Nat)) : Int)) / (4294967296 : Int))))))) := (cutAt_J rfl nok 5 _).trans (by kernel_rfl)
theorem L17_eq (x0 : Int) (x1 : Int) (x2 : Int) (x3 : Int) (x4 : Int) (x5 : Int) (x6 : Int) (x7 : Int) (x8 : Int) : L17 x0 x1 x2 x3 x4 x5 x6 x7 x8 = bcase (decide ((4294967296 : Int) ≤ x7)) (Div64.J18 x0 x1 x2 x3 x4 x5 x6 x7 x8) (bcase (decide (IntKind.u64.wrap (IntKind.u64.wrap ((4294967296 : Int) * x8) + x5) < IntKind.u64.wrap (x7 * x3))) (Div64.J18 x0 x1 x2 x3 x4 x5 x6 x7 x8) (Div64.J21 x0 x1 x2 x3 x4 x5 x6 x7)) := (loopAt_J rfl nok 17 _).trans (by kernel_rfl)
theorem J18_eq (x0 : Int) (x1 : Int) (x2 : Int) (x3 : Int) (x4 : Int) (x5 : Int) (x6 : Int) (x7 : Int) (x8 : Int) : J18 x0 x1 x2 x3 x4 x5 x6 x7 x8 = bcase (decide ((4294967296 : Int) ≤ IntKind.u64.wrap (x8 + x2))) (Div64.J21 x0 x1 x2 x3 x4 x5 x6 (IntKind.u64.wrap (x7 - (1 : Int)))) (Div64.L17 x0 x1 x2 x3 x4 x5 x6 (IntKind.u64.wrap (x7 - (1 : Int))) (IntKind.u64.wrap (x8 + x2))) := (cutAt_J rfl nok 18 _).trans (by kernel_rfl)
theorem J21_eq (x0 : Int) (x1 : Int) (x2 : Int) (x3 : Int) (x4 : Int) (x5 : Int) (x6 : Int) (x7 : Int) : J21 x0 x1 x2 x3 x4 x5 x6 x7 = if x2 = (0 : Int) then none else Div64.L24 x0 x1 x2 x3 x6 x7 (IntKind.u64.wrap (IntKind.u64.wrap (IntKind.u64.wrap (IntKind.u64.wrap (x4 * (4294967296 : Int)) + x5) - IntKind.u64.wrap (x7 * x0)) - IntKind.u64.wrap (IntKind.u64.wrap ((IntKind.u64.wrap (IntKind.u64.wrap (IntKind.u64.wrap (x4 * (4294967296 : Int)) + x5) - IntKind.u64.wrap (x7 * x0))).tdiv x2) * x2))) (IntKind.u64.wrap (IntKind.u64.wrap (IntKind.u64.wrap (x4 * (4294967296 : Int)) + x5) - IntKind.u64.wrap (x7 * x0))) (IntKind.u64.wrap ((IntKind.u64.wrap (IntKind.u64.wrap (IntKind.u64.wrap (x4 * (4294967296 : Int)) + x5) - IntKind.u64.wrap (x7 * x0))).tdiv x2)) := (cutAt_J rfl nok 21 _).trans (by kernel_rfl)
theorem L24_eq (x0 : Int) (x1 : Int) (x2 : Int) (x3 : Int) (x4 : Int) (x5 : Int) (x6 : Int) (x7 : Int) (x8 : Int) : L24 x0 x1 x2 x3 x4 x5 x6 x7 x8 = bcase (decide ((4294967296 : Int) ≤ x8)) (Div64.J25 x0 x1 x2 x3 x4 x5 x6 x7 x8) (bcase (decide (IntKind.u64.wrap (IntKind.u64.wrap ((4294967296 : Int) * x6) + x4) < IntKind.u64.wrap (x8 * x3))) (Div64.J25 x0 x1 x2 x3 x4 x5 x6 x7 x8) (Div64.J28 x0 x1 x4 x5 x7 x8)) := (loopAt_J rfl nok 24 _).trans (by kernel_rfl)
theorem J25_eq (x0 : Int) (x1 : Int) (x2 : Int) (x3 : Int) (x4 : Int) (x5 : Int) (x6 : Int) (x7 : Int) (x8 : Int) : J25 x0 x1 x2 x3 x4 x5 x6 x7 x8 = bcase (decide ((4294967296 : Int) ≤ IntKind.u64.wrap (x6 + x2))) (Div64.J28 x0 x1 x4 x5 x7 (IntKind.u64.wrap (x8 - (1 : Int)))) (Div64.L24 x0 x1 x2 x3 x4 x5 (IntKind.u64.wrap (x6 + x2)) x7 (IntKind.u64.wrap (x8 - (1 : Int)))) := (cutAt_J rfl nok 25 _).trans (by kernel_rfl)
theorem J28_eq (x0 : Int) (x1 : Int) (x2 : Int) (x3 : Int) (x4 : Int) (x5 : Int) : J28 x0 x1 x2 x3 x4 x5 = if x1 < (0 : Int) then none else some [D.s (S.sc (Value.int IntKind.u64 (IntKind.u64.wrap (IntKind.u64.wrap (x3 * (4294967296 : Int)) + x5)))), D.s (S.sc (Value.int IntKind.u64 (IntKind.u64.wrap (IntKind.u64.wrap (IntKind.u64.wrap (x4 * (4294967296 : Int)) + x2) - IntKind.u64.wrap (x5 * x0)) / (↑((2 : Nat) ^ min x1.toNat (64 : Nat)) : Int))))] := (cutAt_J rfl nok 28 _).trans (by kernel_rfl)
-- stuck: 0
end Div64
namespace Div64
theorem wrapN {n : Nat} (h : n < 18446744073709551616) : IntKind.u64.wrap (n : Int) = (n : Int) := wrap_u64 (Int.natCast_nonneg _) (Int.ofNat_lt.2 h)
theorem loop {y1 y0 u u1 : Nat} (hy1 : 2147483648 ≤ y1) (hy1' : y1 < 4294967296) (hy0 : y0 < 4294967296) (hu : u < y1 * 4294967296 + y0) (hu1 : u1 < 4294967296)
    (Lf Jf : Int → Int → Option (List D)) (Kf : Int → Option (List D))
    (hL : ∀ q r, Lf q r = bcase (decide (4294967296 ≤ q)) (Jf q r) (bcase (decide (IntKind.u64.wrap (IntKind.u64.wrap (4294967296 * r) + (u1 : Int)) < IntKind.u64.wrap (q * (y0 : Int)))) (Jf q r) (Kf q)))
    (hJ : ∀ q r, Jf q r = bcase (decide (4294967296 ≤ IntKind.u64.wrap (r + (y1 : Int)))) (Kf (IntKind.u64.wrap (q - 1))) (Lf (IntKind.u64.wrap (q - 1)) (IntKind.u64.wrap (r + (y1 : Int))))) :
    ∀ (q r : Nat), u = q * y1 + r → r < 4294967296 → u * 4294967296 + u1 < (q + 1) * (y1 * 4294967296 + y0) →
      Lf (q : Int) (r : Int) = Kf (((u * 4294967296 + u1) / (y1 * 4294967296 + y0) : Nat) : Int) := by
  have hy : 0 < y1 * 4294967296 + y0 := by omega
  intro q
  induction q with
  | zero =>
    intro r h1 h2 h3
    have h0 : (u * 4294967296 + u1) / (y1 * 4294967296 + y0) = 0 := Nat.div_eq_of_lt (by omega)
    rw [hL, bD_neg (by omega), h0, show (((0 : Nat) : Int) * (y0 : Int)) = 0 from by omega, wrap_u64 (n := 0) (by omega) (by omega), bD_neg]
    rw [wrap_u64 (n := 4294967296 * (r : Int)) (by omega) (by omega), wrap_u64 (by omega) (by omega)]
    omega
  | succ q ih =>
    intro r h1 h2 h3
    have hq : q ≤ 4294967296 := by
      refine Nat.le_of_not_lt fun hc => ?_
      have : 4294967297 * y1 ≤ q * y1 := Nat.mul_le_mul_right _ hc
      rw [Nat.add_mul] at h1
      omega
    have w1 : IntKind.u64.wrap (((q + 1 : Nat) : Int) - 1) = (q : Int) := by rw [wrap_u64 (by omega) (by omega)]; omega
    have w2 : IntKind.u64.wrap ((r : Int) + (y1 : Int)) = ((r + y1 : Nat) : Int) := by rw [wrap_u64 (by omega) (by omega)]; omega
    have hle : (q + 1) * y0 ≤ 4294967297 * 4294967295 := Nat.mul_le_mul (by omega) (by omega)
    have w3 : IntKind.u64.wrap (((q + 1 : Nat) : Int) * (y0 : Int)) = (((q + 1) * y0 : Nat) : Int) := by
      rw [← Int.natCast_mul]
      exact wrap_u64 (by omega) (by omega)
    have w4 : IntKind.u64.wrap (IntKind.u64.wrap (4294967296 * (r : Int)) + (u1 : Int)) = ((4294967296 * r + u1 : Nat) : Int) := by
      rw [wrap_u64 (n := 4294967296 * (r : Int)) (by omega) (by omega), wrap_u64 (by omega) (by omega)]; omega
    have ex : (q + 1) * (y1 * 4294967296 + y0) = (q * y1 + y1) * 4294967296 + (q + 1) * y0 := by
      rw [Nat.mul_add, ← Nat.mul_assoc, Nat.add_mul q 1 y1, Nat.one_mul]
    have exq : q * (y1 * 4294967296 + y0) = (q * y1) * 4294967296 + q * y0 := by
      rw [Nat.mul_add, ← Nat.mul_assoc]
    have h1' : u = q * y1 + (r + y1) := by rw [Nat.add_mul] at h1; omega
    have hcut : u * 4294967296 + u1 < (q + 1) * (y1 * 4294967296 + y0) → Jf ((q + 1 : Nat) : Int) r = Kf (((u * 4294967296 + u1) / (y1 * 4294967296 + y0) : Nat) : Int) := by
      intro hT
      rw [hJ, w1, w2]
      by_cases hc : 4294967296 ≤ r + y1
      · have hq0 : q * y0 ≤ 4294967296 * 4294967295 := Nat.mul_le_mul hq (by omega)
        have : (u * 4294967296 + u1) / (y1 * 4294967296 + y0) = q := by
          refine Nat.div_eq_of_lt_le ?_ hT
          rw [exq, h1']
          omega
        rw [bD_pos (by omega), this]
      · rw [bD_neg (by omega)]
        exact ih (r + y1) h1' (by omega) hT
    rw [hL, w3, w4]
    by_cases hb : 4294967296 ≤ q + 1
    · rw [bD_pos (by omega)]
      apply hcut
      have : 4294967296 * (y1 * 4294967296 + y0) ≤ (q + 1) * (y1 * 4294967296 + y0) := Nat.mul_le_mul_right _ hb
      omega
    · rw [bD_neg (by omega)]
      by_cases hc : 4294967296 * r + u1 < (q + 1) * y0
      · rw [bD_pos (by omega)]
        apply hcut
        rw [ex]
        omega
      · have : (u * 4294967296 + u1) / (y1 * 4294967296 + y0) = q + 1 := by
          refine Nat.div_eq_of_lt_le ?_ h3
          rw [ex, h1']
          rw [Nat.add_mul (q * y1)]
          omega
        rw [bD_neg (by omega), this]
theorem wsub (P b Q : Int) : IntKind.u64.wrap (IntKind.u64.wrap (IntKind.u64.wrap P + b) - IntKind.u64.wrap Q) = IntKind.u64.wrap (P + b - Q) := by
  rw [wrap_u64_eq, wrap_u64_eq, wrap_u64_eq, wrap_u64_eq, wrap_u64_eq]; omega
theorem modw {u u1 y : Nat} (hy : 0 < y) (hy' : y ≤ 18446744073709551616) : IntKind.u64.wrap ((u : Int) * 4294967296 + (u1 : Int) - (((u * 4294967296 + u1) / y : Nat) : Int) * (y : Int)) = (((u * 4294967296 + u1) % y : Nat) : Int) := by
  have h := Nat.div_add_mod (u * 4294967296 + u1) y
  have hm := Nat.mod_lt (u * 4294967296 + u1) hy
  rw [← Int.natCast_mul, Nat.mul_comm _ y]
  generalize y * ((u * 4294967296 + u1) / y) = z at *
  generalize (u * 4294967296 + u1) % y = m at *
  rw [wrap_u64 (by omega) (by omega)]
  omega
theorem knuth {y1 y0 u u1 u0 s : Nat} (hy1 : 2147483648 ≤ y1) (hy1' : y1 < 4294967296) (hy0 : y0 < 4294967296) (hu : u < y1 * 4294967296 + y0) (hu1 : u1 < 4294967296) (hu0 : u0 < 4294967296) (hs : s ≤ 63) :
    L17 ((y1 * 4294967296 + y0 : Nat) : Int) s y1 y0 u u1 u0 ((u / y1 : Nat) : Int) ((u % y1 : Nat) : Int) =
      some [D.s (.sc (.int .u64 (((u * 18446744073709551616 + (u1 * 4294967296 + u0)) / (y1 * 4294967296 + y0) : Nat) : Int))), D.s (.sc (.int .u64 (((u * 18446744073709551616 + (u1 * 4294967296 + u0)) % (y1 * 4294967296 + y0) / 2 ^ s : Nat) : Int)))] := by
  have hy : 0 < y1 * 4294967296 + y0 := by omega
  have start1 : ∀ v : Nat, ∀ w : Nat, w < 4294967296 → v * 4294967296 + w < (v / y1 + 1) * (y1 * 4294967296 + y0) := by
    intro v w hw
    have h := Nat.div_add_mod v y1
    have hm := Nat.mod_lt v (show 0 < y1 by omega)
    have : (v / y1 + 1) * (y1 * 4294967296 + y0) = (y1 * (v / y1) + y1) * 4294967296 + (v / y1 + 1) * y0 := by
      rw [Nat.mul_add, ← Nat.mul_assoc, Nat.add_mul, Nat.one_mul, Nat.mul_comm y1]
    rw [this]
    omega
  have dm : ∀ v : Nat, v = v / y1 * y1 + v % y1 := by
    intro v
    rw [Nat.mul_comm]
    exact (Nat.div_add_mod v y1).symm
  obtain ⟨Y, hY⟩ : ∃ Y : Int, Y = ((y1 * 4294967296 + y0 : Nat) : Int) := ⟨_, rfl⟩
  rw [← hY]
  have l1 : L17 Y s y1 y0 u u1 u0 ((u / y1 : Nat) : Int) ((u % y1 : Nat) : Int) = J21 Y s y1 y0 u u1 u0 (((u * 4294967296 + u1) / (y1 * 4294967296 + y0) : Nat) : Int) :=
    loop hy1 hy1' hy0 hu hu1 (L17 Y s y1 y0 u u1 u0) (J18 Y s y1 y0 u u1 u0) (J21 Y s y1 y0 u u1 u0) (fun q r => L17_eq ..) (fun q r => J18_eq ..) (u / y1) (u % y1) (dm u) (by have := Nat.mod_lt u (show 0 < y1 by omega); omega) (start1 u u1 hu1)
  refine l1.trans ?_
  rw [J21_eq, if_neg (by omega), wsub]
  have m1 := modw (u := u) (u1 := u1) hy (by omega)
  rw [← hY] at m1
  rw [m1]
  obtain ⟨q1, hq1⟩ : ∃ q1, (u * 4294967296 + u1) / (y1 * 4294967296 + y0) = q1 := ⟨_, rfl⟩
  rw [hq1]
  have hv := Nat.mod_lt (u * 4294967296 + u1) hy
  have hT := Nat.div_add_mod (u * 4294967296 + u1) (y1 * 4294967296 + y0)
  rw [hq1] at hT
  obtain ⟨v, hve⟩ : ∃ v, (u * 4294967296 + u1) % (y1 * 4294967296 + y0) = v := ⟨_, rfl⟩
  rw [hve] at hv hT ⊢
  have hd : v / y1 ≤ v := Nat.div_le_self _ _
  have w5 : IntKind.u64.wrap ((v : Int).tdiv (y1 : Int)) = ((v / y1 : Nat) : Int) := by
    rw [Int.tdiv_eq_ediv_of_nonneg (by omega), ← Int.natCast_ediv]
    exact wrapN (by omega)
  have w6 : IntKind.u64.wrap ((v : Int) - IntKind.u64.wrap (((v / y1 : Nat) : Int) * (y1 : Int))) = ((v % y1 : Nat) : Int) := by
    have := dm v
    have hm := Nat.mod_lt v (show 0 < y1 by omega)
    rw [← Int.natCast_mul]
    generalize v / y1 * y1 = z at *
    generalize v % y1 = m at *
    rw [wrap_u64 (n := (z : Int)) (by omega) (by omega), wrap_u64 (by omega) (by omega)]
    omega
  have l2 : L24 Y s y1 y0 u0 q1 ((v % y1 : Nat) : Int) v ((v / y1 : Nat) : Int) = J28 Y s u0 q1 v (((v * 4294967296 + u0) / (y1 * 4294967296 + y0) : Nat) : Int) :=
    loop hy1 hy1' hy0 hv hu0 (fun q r => L24 Y s y1 y0 u0 q1 r v q) (fun q r => J25 Y s y1 y0 u0 q1 r v q) (J28 Y s u0 q1 v) (fun q r => L24_eq ..) (fun q r => J25_eq ..) (v / y1) (v % y1) (dm v) (by have := Nat.mod_lt v (show 0 < y1 by omega); omega) (start1 v u0 hu0)
  rw [w5, w6, l2]
  rw [J28_eq, if_neg (by omega), wsub]
  have m2 := modw (u := v) (u1 := u0) hy (by omega)
  rw [← hY] at m2
  rw [m2]
  have hw := Nat.mod_lt (v * 4294967296 + u0) hy
  have hT0 := Nat.div_add_mod (v * 4294967296 + u0) (y1 * 4294967296 + y0)
  have hq0 : (v * 4294967296 + u0) / (y1 * 4294967296 + y0) < 4294967296 := Nat.div_lt_of_lt_mul (by omega)
  have hq1' : q1 < 4294967296 := by rw [← hq1]; exact Nat.div_lt_of_lt_mul (by omega)
  obtain ⟨q0, hqe⟩ : ∃ q0, (v * 4294967296 + u0) / (y1 * 4294967296 + y0) = q0 := ⟨_, rfl⟩
  obtain ⟨w, hwe⟩ : ∃ w, (v * 4294967296 + u0) % (y1 * 4294967296 + y0) = w := ⟨_, rfl⟩
  rw [hqe] at hT0 hq0 ⊢
  rw [hwe] at hT0 hw ⊢
  have key : u * 18446744073709551616 + (u1 * 4294967296 + u0) = (y1 * 4294967296 + y0) * (q1 * 4294967296 + q0) + w := by
    rw [Nat.mul_add, ← Nat.mul_assoc]
    generalize (y1 * 4294967296 + y0) * q1 = A at *
    generalize (y1 * 4294967296 + y0) * q0 = C at *
    omega
  rw [key, Nat.mul_add_div hy, Nat.div_eq_of_lt hw, Nat.mul_add_mod, Nat.mod_eq_of_lt hw, Nat.add_zero, Int.toNat_natCast, show min s 64 = s from by omega]
  have w7 : IntKind.u64.wrap (IntKind.u64.wrap ((q1 : Int) * 4294967296) + (q0 : Int)) = ((q1 * 4294967296 + q0 : Nat) : Int) := by
    rw [wrap_u64 (n := (q1 : Int) * 4294967296) (by omega) (by omega), wrap_u64 (by omega) (by omega)]
    omega
  rw [w7, ← Int.natCast_ediv]
noncomputable def sp (a b c : Int) : Prop × List D := ((0 ≤ a ∧ a < c) ∧ (0 ≤ b ∧ b < 18446744073709551616) ∧ c < 18446744073709551616, [.s (.sc (.int .u64 (((a.toNat * 18446744073709551616 + b.toNat) / c.toNat : Nat) : Int))), .s (.sc (.int .u64 (((a.toNat * 18446744073709551616 + b.toNat) % c.toNat : Nat) : Int)))])
theorem spec (a b c : Int) (h : (sp a b c).1) : evalFn E Tryz.f259 cod [(pN .u64).put a, (pN .u64).put b, (pN .u64).put c] = some (sp a b c).2 := by
  obtain ⟨⟨h1, h2⟩, ⟨h3, h4⟩, h5⟩ := h
  refine (start a b c).trans ?_
  obtain ⟨x, rfl⟩ := Int.eq_ofNat_of_zero_le h1
  obtain ⟨l, rfl⟩ := Int.eq_ofNat_of_zero_le h3
  obtain ⟨y, rfl⟩ := Int.eq_ofNat_of_zero_le (show 0 ≤ c by omega)
  show _ = some [D.s (.sc (.int .u64 ((((x : Int).toNat * 18446744073709551616 + (l : Int).toNat) / (y : Int).toNat : Nat) : Int))), D.s (.sc (.int .u64 ((((x : Int).toNat * 18446744073709551616 + (l : Int).toNat) % (y : Int).toNat : Nat) : Int)))]
  rw [Int.toNat_natCast, Int.toNat_natCast, Int.toNat_natCast, bE_neg (by omega), J3_eq, bD_neg (by omega), J5_eq]
  by_cases hx : x = 0
  · subst hx
    have hd : l / y ≤ l := Nat.div_le_self _ _
    rw [bE_pos (a := ((0 : Nat) : Int)) (b := 0) rfl, if_neg (by omega), if_neg (by omega), Int.tdiv_eq_ediv_of_nonneg (by omega), Int.tmod_eq_emod_of_nonneg (by omega), ← Int.natCast_ediv, ← Int.natCast_emod, wrapN (by omega), Nat.zero_mul, Nat.zero_add]
  · have hy0 : y ≠ 0 := by omega
    have hbp := bl_pos hy0
    have hb64 : bl y ≤ 64 := bl_le.2 (by omega)
    have hge := bl_ge hy0
    have hlt := lt_bl y
    obtain ⟨s, hs⟩ : ∃ s, s = 64 - bl y := ⟨_, rfl⟩
    have hs63 : s ≤ 63 := by omega
    have w1 : IntKind.u64.wrap (64 - ((bl y : Nat) : Int)) = (s : Int) := by rw [wrap_u64 (by omega) (by omega)]; omega
    have w2 : IntKind.u64.wrap (64 - (s : Int)) = ((64 - s : Nat) : Int) := by rw [wrap_u64 (by omega) (by omega)]; omega
    have e64 : 2 ^ (64 - s) * 2 ^ s = 18446744073709551616 := by rw [← Nat.pow_add, show 64 - s + s = 64 from by omega]
    have e63 : 2 ^ (bl y - 1) * 2 ^ s = 9223372036854775808 := by rw [← Nat.pow_add, show bl y - 1 + s = 63 from by omega]
    have hps : 0 < 2 ^ s := Nat.pow_pos (by omega)
    have hyp : y + 1 ≤ 2 ^ (64 - s) := by rw [show 64 - s = bl y from by omega]; omega
    have hyp1 : (y + 1) * 2 ^ s ≤ 18446744073709551616 := by rw [← e64]; exact Nat.mul_le_mul_right _ hyp
    have hyp2 : 9223372036854775808 ≤ y * 2 ^ s := by rw [← e63]; exact Nat.mul_le_mul_right _ hge
    have hxp : (x + 1) * 2 ^ s ≤ y * 2 ^ s := Nat.mul_le_mul_right _ (by omega)
    rw [Nat.add_mul, Nat.one_mul] at hyp1 hxp
    have wy : IntKind.u64.wrap ((y : Int) * ((2 ^ s : Nat) : Int)) = ((y * 2 ^ s : Nat) : Int) := by rw [← Int.natCast_mul]; exact wrap_u64 (by omega) (by omega)
    have wx : IntKind.u64.wrap ((x : Int) * ((2 ^ s : Nat) : Int)) = ((x * 2 ^ s : Nat) : Int) := by rw [← Int.natCast_mul]; exact wrap_u64 (by omega) (by omega)
    have wl : IntKind.u64.wrap ((l : Int) * ((2 ^ s : Nat) : Int)) = ((l * 2 ^ s % 18446744073709551616 : Nat) : Int) := by rw [← Int.natCast_mul, wrap_u64_eq]; omega
    have hlo : l / 2 ^ (64 - s) < 2 ^ s := by
      apply Nat.div_lt_of_lt_mul
      rw [e64]
      omega
    have hsp := shl_parts l s (by omega)
    have wor : bitsI .or .u64 ((x * 2 ^ s : Nat) : Int) (((l / 2 ^ (64 - s) : Nat)) : Int) = ((x * 2 ^ s + l / 2 ^ (64 - s) : Nat) : Int) := by
      have := or_low (n := x) hlo
      rw [or64 (by omega) (by omega) (by omega) (by omega), Int.toNat_natCast, Int.toNat_natCast, Nat.or_comm, Nat.mul_comm x, this, Nat.add_comm]
    have wand : ∀ z : Nat, z < 18446744073709551616 → bitsI .and .u64 (z : Int) 4294967295 = ((z % 4294967296 : Nat) : Int) := by
      intro z hz
      rw [and_mask32 (by omega) (by omega)]
      omega
    rw [bE_neg (by omega), gP ⟨by omega, by omega⟩, Int.toNat_natCast, w1, w2, if_neg (by omega), if_neg (by omega), if_neg (by omega), if_neg (by omega),
      Int.toNat_natCast, Int.toNat_natCast, show min s 64 = s from by omega, show min (64 - s) 64 = 64 - s from by omega, wy, wx, wl, ← Int.natCast_ediv l, wor]
    have hu : x * 2 ^ s + l / 2 ^ (64 - s) < y * 2 ^ s := by omega
    have hU : (x * 18446744073709551616 + l) * 2 ^ s = (x * 2 ^ s + l / 2 ^ (64 - s)) * 18446744073709551616 + l * 2 ^ s % 18446744073709551616 := by
      rw [Nat.add_mul, hsp, Nat.mul_right_comm]
      omega
    have hlm : l * 2 ^ s % 18446744073709551616 < 18446744073709551616 := Nat.mod_lt _ (by omega)
    have hdiv : (x * 18446744073709551616 + l) / y = ((x * 2 ^ s + l / 2 ^ (64 - s)) * 18446744073709551616 + l * 2 ^ s % 18446744073709551616) / (y * 2 ^ s) := by
      rw [← hU, Nat.mul_div_mul_right _ _ hps]
    have hmod : (x * 18446744073709551616 + l) % y = ((x * 2 ^ s + l / 2 ^ (64 - s)) * 18446744073709551616 + l * 2 ^ s % 18446744073709551616) % (y * 2 ^ s) / 2 ^ s := by
      rw [← hU, Nat.mul_mod_mul_right, Nat.mul_div_cancel _ hps]
    rw [hdiv, hmod]
    clear hdiv hmod hU wor wl wx wy hsp hlo hxp
    generalize x * 2 ^ s + l / 2 ^ (64 - s) = U at *
    generalize y * 2 ^ s = Y at *
    generalize l * 2 ^ s % 18446744073709551616 = V at *
    have k := knuth (y1 := Y / 4294967296) (y0 := Y % 4294967296) (u := U) (u1 := V / 4294967296) (u0 := V % 4294967296) (s := s) (by omega) (by omega) (by omega) (by omega) (by omega) (by omega) hs63
    rw [show Y / 4294967296 * 4294967296 + Y % 4294967296 = Y from by omega, show V / 4294967296 * 4294967296 + V % 4294967296 = V from by omega] at k
    have hY1 : (Y : Int) / 4294967296 = ((Y / 4294967296 : Nat) : Int) := by omega
    have hV1 : (V : Int) / 4294967296 = ((V / 4294967296 : Nat) : Int) := by omega
    have hd : U / (Y / 4294967296) ≤ U := Nat.div_le_self _ _
    have hdm := Nat.div_add_mod U (Y / 4294967296)
    have q1 : IntKind.u64.wrap ((U : Int).tdiv ((Y / 4294967296 : Nat) : Int)) = ((U / (Y / 4294967296) : Nat) : Int) := by
      rw [Int.tdiv_eq_ediv_of_nonneg (by omega), ← Int.natCast_ediv]
      exact wrapN (by omega)
    have r1 : IntKind.u64.wrap ((U : Int) - IntKind.u64.wrap (((U / (Y / 4294967296) : Nat) : Int) * ((Y / 4294967296 : Nat) : Int))) = ((U % (Y / 4294967296) : Nat) : Int) := by
      rw [← Int.natCast_mul, Nat.mul_comm]
      generalize Y / 4294967296 * (U / (Y / 4294967296)) = z at *
      generalize U % (Y / 4294967296) = m at *
      rw [wrap_u64 (n := (z : Int)) (by omega) (by omega), wrap_u64 (by omega) (by omega)]
      omega
    rw [hY1, hV1, if_neg (by omega), wand _ (by omega), wand _ hlm, q1, r1]
    exact k

noncomputable def orc : Orc := orc3 (pN .u64) (pN .u64) (pN .u64) sp
theorem fnok : FnOk Tryz.prog E 259 Tryz.f259 cod := fnOk ty_ok mixed (callsOk_of _ rfl (orcs_cons Lz64.ok orcs_nil) (ext_ok)) Tryz.func259 rfl rfl rfl
theorem ok : OrcOk Tryz.prog base.glob 259 orc := fnok.ok3 rfl spec
end Div64
end Go.Proofs.YtknafopmgaolmaaGreatDoor.W

/- gnomon/nat.DivWord -/
namespace Go.Proofs.YtknafopmgaolmaaGreatDoor.W
open Go Go.Proofs.YtknafopmgaolmaaGreatDoor.AI Go.Proofs.YtknafopmgaolmaaGreatDoor.M
namespace NDivWord
noncomputable def E : Env := { ({ base with C := callsOf [(202, NForm.orc), (204, NTold.orc), (259, Div64.orc)] }) with nt := 45, own := [34, 40], keep := fun k => (tlook [(8, [0, 1, 7, 8, 9])] k).getD [], cut := tlook [] }
noncomputable def cod : Code := (Go.Proofs.Tryz.f229.body).getD .skip
theorem nok : namesOk E cod = true := by kernel_rfl
noncomputable def L8 (xs0 : List Int) (x1 : Int) (m2 : Nat) (xs3 : List Int) (x4 : Int) (x5 : Int) : Option (List D) := lpO E Go.Proofs.Tryz.f229 cod 8 [(A.v (V.one (L.s (S.ints IntKind.u64 xs0))), none), (A.v (V.one (L.s (S.sc (Value.int IntKind.u64 x1)))), none), (A.v (V.one (L.buf (2 : Nat) m2)), some { e := (23 : Nat), cont := Cont.ints IntKind.u64 xs3 }), (A.v (V.one (L.s (S.sc (Value.int IntKind.u64 x4)))), none), (A.v (V.one (L.s (S.sc (Value.int IntKind.i64 x5)))), none)]
theorem start (a : List Int) (b : Int) : evalFn E Go.Proofs.Tryz.f229 cod [D.s (S.ints IntKind.u64 a), D.s (S.sc (Value.int IntKind.u64 b))] = gif (a.length ≤ (1099511627776 : Nat)) (bcase (!NForm.formB a) (some [D.s (S.sc (Value.slice none (0 : Nat) (0 : Nat))), D.s (S.sc (Value.int IntKind.u64 (0 : Int))), D.s (S.sc (Value.int IntKind.i64 (2 : Int)))]) (bcase (b == (0 : Int)) (some [D.s (S.sc (Value.slice none (0 : Nat) (0 : Nat))), D.s (S.sc (Value.int IntKind.u64 (0 : Int))), D.s (S.sc (Value.int IntKind.i64 (4 : Int)))]) (if (0 : Int) ≤ (↑a.length : Int) ∧ (↑a.length : Int) ≤ (↑a.length : Int) ∧ (↑a.length : Int) ≤ (8796093022208 : Int) then NDivWord.L8 a b (↑a.length : Int).toNat (List.replicate (↑a.length : Int).toNat (0 : Int)) (0 : Int) (IntKind.i64.wrap ((↑a.length : Int) - (1 : Int))) else none))) := (evalFn_J rfl nok _).trans (by kernel_rfl)
theorem L8_eq (xs0 : List Int) (x1 : Int) (m2 : Nat) (xs3 : List Int) (x4 : Int) (x5 : Int) : L8 xs0 x1 m2 xs3 x4 x5 = bcase (decide ((0 : Int) ≤ x5)) (if (0 : Int) ≤ x5 ∧ x5 < (↑xs0.length : Int) then gif (((0 : Int) ≤ x4 ∧ x4 < x1) ∧ ((0 : Int) ≤ xs0.getD x5.toNat (0 : Int) ∧ xs0.getD x5.toNat (0 : Int) < (18446744073709551616 : Int)) ∧ x1 < (18446744073709551616 : Int)) (if (0 : Int) ≤ x5 ∧ x5 < (↑m2 : Int) then NDivWord.L8 xs0 x1 m2 (xs3.set x5.toNat (↑((x4.toNat * (18446744073709551616 : Nat) + (xs0.getD x5.toNat (0 : Int)).toNat) / x1.toNat) : Int)) (↑((x4.toNat * (18446744073709551616 : Nat) + (xs0.getD x5.toNat (0 : Int)).toNat) % x1.toNat) : Int) (IntKind.i64.wrap (x5 - (1 : Int))) else none) else none) (gif (M6.Dig xs3 ∧ xs3.length ≤ (1099511627776 : Nat)) (some [D.s (S.ints IntKind.u64 (bif NTold.okN (M6.val xs3) then M6.dg (M6.val xs3) else [])), D.s (S.sc (Value.int IntKind.u64 x4)), D.s (S.sc (Value.int IntKind.i64 (0 : Int)))])) := (loopAt_J rfl nok 8 _).trans (by kernel_rfl)
-- stuck: 0
end NDivWord
namespace NDivWord
theorem L {a : List Int} {b : Nat} (ha : M6.Nrm a) (hl : a.length ≤ 8192) (hb0 : 0 < b) (hb : b < 18446744073709551616) : ∀ (i : Nat) (Q : List Int), i + Q.length = a.length → M6.Dig Q → M6.val Q = M6.val (a.drop i) / b →
    L8 a b a.length (List.replicate i 0 ++ Q) ((M6.val (a.drop i) % b : Nat) : Int) ((i : Int) - 1) = some [D.s (.ints .u64 (M6.dg (M6.val a / b))), D.s (.sc (.int .u64 ((M6.val a % b : Nat) : Int))), D.s (.sc (.int .i64 0))] := by
  intro i
  induction i with
  | zero =>
    intro Q hi hd hv
    have hok : NTold.okN (M6.val a / b) = true := by
      refine decide_eq_true ?_
      rw [List.drop_zero] at hv
      rw [← hv]
      have := M6.len_val hd
      omega
    rw [List.drop_zero] at hv ⊢
    rw [List.replicate_zero, List.nil_append, L8_eq, bD_neg (by omega), gP ⟨hd, by omega⟩, hv, hok]
    rfl
  | succ i ih =>
    intro Q hi hd hv
    have g := ha.dig.get i
    have hm := Nat.mod_lt (M6.val (a.drop (i + 1))) hb0
    have hdm := Nat.div_add_mod (M6.val (a.drop (i + 1))) b
    have w : IntKind.i64.wrap ((i : Int) - 1) = (i : Int) - 1 := by rw [wrap_i64 (by omega) (by omega)]
    have hs : (List.replicate i (0 : Int) ++ 0 :: Q).set i ((((M6.val (a.drop (i + 1)) % b) * 18446744073709551616 + (a.getD i 0).toNat) / b : Nat) : Int) = List.replicate i 0 ++ (((((M6.val (a.drop (i + 1)) % b) * 18446744073709551616 + (a.getD i 0).toNat) / b : Nat) : Int) :: Q) := set_at (by simp) _ _ _
    have hN : M6.val (a.drop i) = b * (18446744073709551616 * (M6.val (a.drop (i + 1)) / b)) + ((M6.val (a.drop (i + 1)) % b) * 18446744073709551616 + (a.getD i 0).toNat) := by
      rw [M6.val_drop_one, Nat.mul_left_comm]
      generalize b * (M6.val (a.drop (i + 1)) / b) = z at *
      omega
    have hq : ((M6.val (a.drop (i + 1)) % b) * 18446744073709551616 + (a.getD i 0).toNat) / b < 18446744073709551616 := by
      apply Nat.div_lt_of_lt_mul
      have : (M6.val (a.drop (i + 1)) % b + 1) * 18446744073709551616 ≤ b * 18446744073709551616 := Nat.mul_le_mul_right _ hm
      omega
    have hcast : (0 : Int) ≤ ((M6.val (a.drop (i + 1)) % b : Nat) : Int) ∧ ((M6.val (a.drop (i + 1)) % b : Nat) : Int) < (b : Int) := ⟨Int.natCast_nonneg _, Int.ofNat_lt.2 hm⟩
    have hlast := ih (((((M6.val (a.drop (i + 1)) % b) * 18446744073709551616 + (a.getD i 0).toNat) / b : Nat) : Int) :: Q) (by rw [List.length_cons]; omega) (M6.dig_cons.2 ⟨⟨Int.natCast_nonneg _, Int.ofNat_lt.2 hq⟩, hd⟩) (by
        show (((((M6.val (a.drop (i + 1)) % b) * 18446744073709551616 + (a.getD i 0).toNat) / b : Nat) : Int)).toNat + 18446744073709551616 * M6.val Q = _
        rw [Int.toNat_natCast, hN, Nat.mul_add_div hb0, hv, Nat.add_comm])
    rw [L8_eq, show (((i + 1 : Nat) : Int) - 1) = (i : Int) from by omega, bD_pos (by omega), if_pos ⟨by omega, by omega⟩, Int.toNat_natCast, gP ⟨hcast, g, by omega⟩, if_pos ⟨by omega, by omega⟩, Int.toNat_natCast, Int.toNat_natCast, w, List.replicate_succ', List.append_assoc, List.singleton_append, hs]
    rw [hN, Nat.mul_add_mod] at hlast
    exact hlast
noncomputable def sp (a : List Int) (n : Int) : Prop × List D := (M6.Nrm a ∧ a.length ≤ 8192 ∧ 0 < n ∧ n < 18446744073709551616, [.s (.ints .u64 (M6.dg (M6.val a / n.toNat))), .s (.sc (.int .u64 ((M6.val a % n.toNat : Nat) : Int))), .s (.sc (.int .i64 0))])
theorem spec (a : List Int) (n : Int) (h : (sp a n).1) : evalFn E Tryz.f229 cod [(pI .u64).put a, (pN .u64).put n] = some (sp a n).2 := by
  obtain ⟨ha, hl, h0, h1⟩ := h
  obtain ⟨b, rfl⟩ := Int.eq_ofNat_of_zero_le (show 0 ≤ n by omega)
  refine (start a b).trans ?_
  show _ = some [D.s (.ints .u64 (M6.dg (M6.val a / (b : Int).toNat))), D.s (.sc (.int .u64 ((M6.val a % (b : Int).toNat : Nat) : Int))), D.s (.sc (.int .i64 0))]
  have w : IntKind.i64.wrap ((a.length : Int) - 1) = (a.length : Int) - 1 := by rw [wrap_i64 (by omega) (by omega)]
  rw [Int.toNat_natCast, Int.toNat_natCast, gP (by omega), NForm.form_of ha hl, Bool.not_true, bF, bE_neg (by omega), if_pos ⟨by omega, by omega, by omega⟩, w]
  have := L (b := b) ha hl (by omega) (by omega) a.length [] (by simp) M6.dig_nil (by simp [M6.val])
  rw [List.append_nil, List.drop_length] at this
  simp only [M6.val, Nat.zero_mod] at this
  exact this

noncomputable def orc : Orc := orc2 (pI .u64) (pN .u64) sp
theorem fnok : FnOk Tryz.prog E 229 Tryz.f229 cod := fnOk ty_ok mixed (callsOk_of _ rfl (orcs_cons NForm.ok (orcs_cons NTold.ok (orcs_cons Div64.ok orcs_nil))) (ext_ok)) Tryz.func229 rfl rfl rfl
theorem ok : OrcOk Tryz.prog base.glob 229 orc := fnok.ok2 rfl spec
end NDivWord
end Go.Proofs.YtknafopmgaolmaaGreatDoor.W

/- gnomon/natdiv.shifted -/
namespace Go.Proofs.YtknafopmgaolmaaGreatDoor.W
open Go Go.Proofs.YtknafopmgaolmaaGreatDoor.AI Go.Proofs.YtknafopmgaolmaaGreatDoor.M
namespace VShifted
noncomputable def E : Env := { (base) with nt := 43, own := [], keep := fun k => (tlook [(7, [1, 7, 8, 19, 20])] k).getD [], cut := tlook [] }
noncomputable def cod : Code := (Go.Proofs.Tryz.f231.body).getD .skip
theorem nok : namesOk E cod = true := by kernel_rfl
noncomputable def L7 (x0 : Int) (m1 : Nat) (xs2 : List Int) (x3 : Int) (x4 : Int) (x5 : Int) : Option (List D) := lpO E Go.Proofs.Tryz.f231 cod 7 [(A.v (V.one (L.s (S.sc (Value.int IntKind.i64 x0)))), none), (A.v (V.one (L.buf (1 : Nat) m1)), some { e := (23 : Nat), cont := Cont.ints IntKind.u64 xs2 }), (A.v (V.one (L.s (S.sc (Value.int IntKind.u64 x3)))), none), (A.v (V.one (L.s (S.sc (Value.int IntKind.i64 x4)))), none), (A.v (V.one (L.s (S.sc (Value.int IntKind.i64 x5)))), none)]
theorem start (a : List Int) (b : Int) (c : Int) : evalFn E Go.Proofs.Tryz.f231 cod [D.s (S.ints IntKind.u64 a), D.s (S.sc (Value.int IntKind.i64 b)), D.s (S.sc (Value.int IntKind.i64 c))] = if (0 : Int) ≤ c ∧ c ≤ c ∧ c ≤ (8796093022208 : Int) then bcase (b == (0 : Int)) (some [D.own (23 : Nat) IntKind.u64 (List.take c.toNat a ++ List.drop (min a.length c.toNat) (List.replicate c.toNat (0 : Int)))]) (VShifted.L7 b c.toNat (List.take c.toNat a ++ List.drop (min a.length c.toNat) (List.replicate c.toNat (0 : Int))) (0 : Int) (↑c.toNat : Int) (0 : Int)) else none := (evalFn_J rfl nok _).trans (by kernel_rfl)
theorem L7_eq (x0 : Int) (m1 : Nat) (xs2 : List Int) (x3 : Int) (x4 : Int) (x5 : Int) : L7 x0 m1 xs2 x3 x4 x5 = bcase (decide (x5 < x4)) (if (0 : Int) ≤ x5 ∧ x5 < (↑m1 : Int) then if x0 < (0 : Int) then none else if (0 : Int) ≤ x5 ∧ x5 < (↑m1 : Int) then if IntKind.i64.wrap ((64 : Int) - x0) < (0 : Int) then none else if (0 : Int) ≤ x5 ∧ x5 < (↑m1 : Int) then VShifted.L7 x0 m1 (xs2.set x5.toNat (bitsI BinOp.or IntKind.u64 (IntKind.u64.wrap (xs2.getD x5.toNat (0 : Int) * (↑((2 : Nat) ^ min x0.toNat (64 : Nat)) : Int))) x3)) (xs2.getD x5.toNat (0 : Int) / (↑((2 : Nat) ^ min (IntKind.i64.wrap ((64 : Int) - x0)).toNat (64 : Nat)) : Int)) x4 (IntKind.i64.wrap (x5 + (1 : Int))) else none else none else none) (some [D.own (23 : Nat) IntKind.u64 xs2]) := (loopAt_J rfl nok 7 _).trans (by kernel_rfl)
-- stuck: 0
end VShifted
namespace VShifted
noncomputable def sp (a : List Int) (s n : Int) : Prop × List D := (M6.Dig a ∧ 0 ≤ s ∧ s < 64 ∧ 0 ≤ n ∧ a.length ≤ n.toNat ∧ n ≤ 549755813888 ∧ M6.val a * 2 ^ s.toNat < 18446744073709551616 ^ n.toNat, [.own tU64 .u64 (M6.fdg n.toNat (M6.val a * 2 ^ s.toNat))])
theorem L {A : List Int} {s n : Nat} (hA : M6.Dig A) (hAl : A.length = n) (hn : n ≤ 549755813888) (hs0 : 0 < s) (hs : s < 64) (hT : M6.val A * 2 ^ s < 18446744073709551616 ^ n) : ∀ (r i : Nat) (P : List Int) (c : Int), i + r = n → P.length = i → M6.Dig P → 0 ≤ c → c < ((2 ^ s : Nat) : Int) →
    M6.val P + 18446744073709551616 ^ i * c.toNat = M6.val (A.take i) * 2 ^ s →
    L7 s n (P ++ A.drop i) c n i = some [.own tU64 .u64 (M6.fdg n (M6.val A * 2 ^ s))] := by
  have hps : 2 ^ s < 2 ^ 64 := Nat.pow_lt_pow_right (by omega) hs
  intro r
  induction r with
  | zero =>
    intro i P c hi hP hd h0 h1 hv
    have hin : i = n := by omega
    subst hin
    rw [M6.val_take_ge (by omega)] at hv
    have hc : c = 0 := by
      rcases Int.lt_or_le 0 c with h | h
      · have h2 : 18446744073709551616 ^ i * 1 ≤ 18446744073709551616 ^ i * c.toNat := Nat.mul_le_mul_left _ (by omega)
        omega
      · omega
    subst hc
    simp at hv
    rw [L7_eq, bD_neg (by omega), List.drop_of_length_le (by omega), List.append_nil, M6.fdg_of hd hP hv]
  | succ r ih =>
    intro i P c hi hP hd h0 h1 hv
    have g := hA.get i
    have w1 : IntKind.i64.wrap ((i : Int) + 1) = ((i + 1 : Nat) : Int) := by rw [wrap_i64 (by omega) (by omega)]; omega
    have w3 : IntKind.i64.wrap (64 - (s : Int)) = ((64 - s : Nat) : Int) := by rw [wrap_i64 (by omega) (by omega)]; omega
    have m1 : min s 64 = s := by omega
    have m2 : min (64 - s) 64 = 64 - s := by omega
    have hdrop : A.drop i = A.getD i 0 :: A.drop (i + 1) := by
      rw [List.drop_eq_getElem_cons (by omega)]
      simp [List.getD_eq_getElem?_getD, List.getElem?_eq_getElem (show i < A.length by omega)]
    obtain ⟨x, hx⟩ := Int.eq_ofNat_of_zero_le g.1
    have hlt : x * 2 ^ s % 18446744073709551616 < 18446744073709551616 := Nat.mod_lt _ (by omega)
    have hlo : IntKind.u64.wrap ((x : Int) * ((2 ^ s : Nat) : Int)) = ((x * 2 ^ s % 18446744073709551616 : Nat) : Int) := by
      rw [wrap_u64_eq, ← Int.natCast_mul, Int.natCast_emod]; rfl
    have hsum : c.toNat + x * 2 ^ s % 18446744073709551616 < 18446744073709551616 := by
      rw [shl_low x s hs]
      have hm : x % 2 ^ (64 - s) < 2 ^ (64 - s) := Nat.mod_lt _ (Nat.pow_pos (by omega))
      have e : (18446744073709551616 : Nat) = 2 ^ s * 2 ^ (64 - s) := by rw [← Nat.pow_add, show s + (64 - s) = 64 from by omega]
      have h3 : 2 ^ s * (x % 2 ^ (64 - s) + 1) ≤ 2 ^ s * 2 ^ (64 - s) := Nat.mul_le_mul_left _ hm
      rw [← e, Nat.mul_add] at h3
      omega
    have hor : bitsI .or .u64 ((x * 2 ^ s % 18446744073709551616 : Nat) : Int) c = c + ((x * 2 ^ s % 18446744073709551616 : Nat) : Int) := by
      rw [or64 (by omega) (by omega) h0 (by omega), Int.toNat_natCast, Nat.or_comm, shl_low x s hs, or_low (by omega)]
      omega
    have hhi : x / 2 ^ (64 - s) < 2 ^ s := by
      apply Nat.div_lt_of_lt_mul
      rw [← Nat.pow_add, show 64 - s + s = 64 from by omega]
      omega
    rw [hdrop, L7_eq, bD_pos (by omega), if_pos (by omega), if_neg (by omega), if_pos (by omega), w3, if_neg (by omega), if_pos (by omega), w1, Int.toNat_natCast, Int.toNat_natCast, Int.toNat_natCast, m1, m2, getD_fill hP, set_at hP, hx, hlo, hor]
    have hsp := shl_parts x s hs
    have := ih (i + 1) (P ++ [c + ((x * 2 ^ s % 18446744073709551616 : Nat) : Int)]) ((x / 2 ^ (64 - s) : Nat) : Int) (by omega) (by simp [hP]) (M6.dig_push hd ⟨by omega, by omega⟩) (by omega) (by omega) (by
      rw [M6.val_push, hP, M6.val_take_one, hx, Int.toNat_natCast, Int.toNat_natCast, Nat.pow_succ, Nat.mul_assoc, Nat.add_mul]
      have e1 : (c + (((x * 2 ^ s % 18446744073709551616 : Nat)) : Int)).toNat = c.toNat + x * 2 ^ s % 18446744073709551616 := by omega
      rw [e1]
      have e2 : 18446744073709551616 ^ i * (c.toNat + x * 2 ^ s % 18446744073709551616) + 18446744073709551616 ^ i * (18446744073709551616 * (x / 2 ^ (64 - s))) = 18446744073709551616 ^ i * c.toNat + 18446744073709551616 ^ i * x * 2 ^ s := by
        rw [Nat.mul_assoc, ← Nat.mul_add, ← Nat.mul_add]
        congr 1
        omega
      omega)
    rw [List.append_assoc, List.singleton_append, Int.natCast_ediv] at this
    exact this
theorem spec (a : List Int) (s n : Int) (h : (sp a s n).1) : evalFn E Tryz.f231 cod [(pI .u64).put a, (pN .i64).put s, (pN .i64).put n] = some (sp a s n).2 := by
  obtain ⟨hd, hs0, hs, hn0, hl, hn, hT⟩ := h
  obtain ⟨s, rfl⟩ := Int.eq_ofNat_of_zero_le hs0
  obtain ⟨n, rfl⟩ := Int.eq_ofNat_of_zero_le hn0
  simp only [sp, Int.toNat_natCast] at hl hT ⊢
  refine (start a s n).trans ?_
  have hA : List.take n a ++ List.drop (min a.length n) (List.replicate n (0 : Int)) = a ++ List.replicate (n - a.length) 0 := by
    rw [List.take_of_length_le hl, List.drop_replicate, Nat.min_eq_left hl]
  have hAv : M6.val (a ++ List.replicate (n - a.length) 0) = M6.val a := by rw [M6.val_append, M6.val_replicate]; omega
  have hAd : M6.Dig (a ++ List.replicate (n - a.length) 0) := M6.dig_append.2 ⟨hd, M6.dig_replicate _⟩
  have hAl : (a ++ List.replicate (n - a.length) 0).length = n := by simp; omega
  rw [if_pos (by omega), Int.toNat_natCast, hA]
  by_cases hz : s = 0
  · subst hz
    rw [bE_pos (by rfl), Nat.pow_zero, Nat.mul_one, M6.fdg_of hAd hAl hAv]
  · rw [bE_neg (by omega)]
    have hp : 0 < ((2 ^ s : Nat) : Int) := by
      have : 0 < 2 ^ s := Nat.pow_pos (by omega)
      omega
    have := L (s := s) hAd hAl (by omega) (by omega) (by omega) (by rw [hAv]; exact hT) n 0 [] 0 (by omega) rfl M6.dig_nil (by omega) hp (by simp [M6.val])
    rw [List.nil_append, List.drop_zero, hAv] at this
    exact this

noncomputable def orc : Orc := orc3 (pI .u64) (pN .i64) (pN .i64) sp
theorem fnok : FnOk Tryz.prog E 231 Tryz.f231 cod := fnOk ty_ok mixed (callsOk_of _ rfl orcs_nil (ext_ok)) Tryz.func231 rfl rfl rfl
theorem ok : OrcOk Tryz.prog base.glob 231 orc := fnok.ok3 rfl spec
end VShifted
end Go.Proofs.YtknafopmgaolmaaGreatDoor.W

/- gnomon/natdiv.trial -/
namespace Go.Proofs.YtknafopmgaolmaaGreatDoor.W
open Go Go.Proofs.YtknafopmgaolmaaGreatDoor.AI Go.Proofs.YtknafopmgaolmaaGreatDoor.M
namespace VTrial
noncomputable def E : Env := { ({ base with C := callsOf [(259, Div64.orc)] }) with nt := 20, own := [16], keep := fun k => (tlook [] k).getD [], cut := tlook [] }
noncomputable def cod : Code := (Go.Proofs.Tryz.f260.body).getD .skip
theorem nok : namesOk E cod = true := by kernel_rfl
theorem start (a : Int) (b : Int) (c : Int) : evalFn E Go.Proofs.Tryz.f260 cod [D.s (S.sc (Value.int IntKind.u64 a)), D.s (S.sc (Value.int IntKind.u64 b)), D.s (S.sc (Value.int IntKind.u64 c))] = bcase (decide (c ≤ a)) (some [D.s (S.sc (Value.int IntKind.u64 (18446744073709551615 : Int)))]) (gif (((0 : Int) ≤ a ∧ a < c) ∧ ((0 : Int) ≤ b ∧ b < (18446744073709551616 : Int)) ∧ c < (18446744073709551616 : Int)) (some [D.s (S.sc (Value.int IntKind.u64 (↑((a.toNat * (18446744073709551616 : Nat) + b.toNat) / c.toNat) : Int)))])) := (evalFn_J rfl nok _).trans (by kernel_rfl)
-- stuck: 0
end VTrial
namespace VTrial
noncomputable def sp (a b c : Int) : Prop × List D := (0 ≤ a ∧ 0 ≤ b ∧ b < 18446744073709551616 ∧ c < 18446744073709551616, [.s (.sc (.int .u64 (if c ≤ a then 18446744073709551615 else (((a.toNat * 18446744073709551616 + b.toNat) / c.toNat : Nat) : Int))))])
theorem spec (a b c : Int) (h : (sp a b c).1) : evalFn E Tryz.f260 cod [(pN .u64).put a, (pN .u64).put b, (pN .u64).put c] = some (sp a b c).2 := by
  obtain ⟨h1, h2, h3, h4⟩ := h
  refine (start a b c).trans ?_
  simp only [sp]
  by_cases hc : c ≤ a
  · rw [bD_pos hc, if_pos hc]
  · rw [bD_neg hc, if_neg hc, gP ⟨⟨h1, by omega⟩, ⟨h2, h3⟩, h4⟩]

noncomputable def orc : Orc := orc3 (pN .u64) (pN .u64) (pN .u64) sp
theorem fnok : FnOk Tryz.prog E 260 Tryz.f260 cod := fnOk ty_ok mixed (callsOk_of _ rfl (orcs_cons Div64.ok orcs_nil) (ext_ok)) Tryz.func260 rfl rfl rfl
theorem ok : OrcOk Tryz.prog base.glob 260 orc := fnok.ok3 rfl spec
end VTrial
end Go.Proofs.YtknafopmgaolmaaGreatDoor.W

/- math/bits.Mul64 -/
namespace Go.Proofs.YtknafopmgaolmaaGreatDoor.W
open Go Go.Proofs.YtknafopmgaolmaaGreatDoor.AI Go.Proofs.YtknafopmgaolmaaGreatDoor.M
namespace Mul64
noncomputable def E : Env := { (base) with nt := 51, own := [], keep := fun k => (tlook [] k).getD [], cut := tlook [] }
noncomputable def cod : Code := (Go.Proofs.Tryz.f283.body).getD .skip
theorem nok : namesOk E cod = true := by kernel_rfl
theorem start (a : Int) (b : Int) : evalFn E Go.Proofs.Tryz.f283 cod [D.s (S.sc (Value.int IntKind.u64 a)), D.s (S.sc (Value.int IntKind.u64 b))] = some [D.s (S.sc (Value.int IntKind.u64 (IntKind.u64.wrap (IntKind.u64.wrap (IntKind.u64.wrap (a / (4294967296 : Int) * (b / (4294967296 : Int))) + IntKind.u64.wrap (IntKind.u64.wrap (a / (4294967296 : Int) * bitsI BinOp.and IntKind.u64 b (4294967295 : Int)) + IntKind.u64.wrap (bitsI BinOp.and IntKind.u64 a (4294967295 : Int) * bitsI BinOp.and IntKind.u64 b (4294967295 : Int)) / (4294967296 : Int)) / (4294967296 : Int)) + IntKind.u64.wrap (bitsI BinOp.and IntKind.u64 (IntKind.u64.wrap (IntKind.u64.wrap (a / (4294967296 : Int) * bitsI BinOp.and IntKind.u64 b (4294967295 : Int)) + IntKind.u64.wrap (bitsI BinOp.and IntKind.u64 a (4294967295 : Int) * bitsI BinOp.and IntKind.u64 b (4294967295 : Int)) / (4294967296 : Int))) (4294967295 : Int) + IntKind.u64.wrap (bitsI BinOp.and IntKind.u64 a (4294967295 : Int) * (b / (4294967296 : Int)))) / (4294967296 : Int))))), D.s (S.sc (Value.int IntKind.u64 (IntKind.u64.wrap (a * b))))] := (evalFn_J rfl nok _).trans (by kernel_rfl)
-- stuck: 0
end Mul64
namespace Mul64
noncomputable def sp (a b : Int) : Prop × List D := (0 ≤ a ∧ a < 18446744073709551616 ∧ 0 ≤ b ∧ b < 18446744073709551616, [.s (.sc (.int .u64 (a * b / 18446744073709551616))), .s (.sc (.int .u64 (a * b % 18446744073709551616)))])
theorem spec (a b : Int) (h : (sp a b).1) : evalFn E Tryz.f283 cod [(pN .u64).put a, (pN .u64).put b] = some (sp a b).2 := by
  obtain ⟨ha, ha', hb, hb'⟩ := h
  refine (start a b).trans ?_
  simp only [sp]
  have m1 : bitsI .and .u64 a 4294967295 = a % 4294967296 := and_mask32 ha ha'
  have m2 : bitsI .and .u64 b 4294967295 = b % 4294967296 := and_mask32 hb hb'
  rw [m1, m2]
  have bd : ∀ x y : Int, 0 ≤ x → x ≤ 4294967295 → 0 ≤ y → y ≤ 4294967295 → 0 ≤ x * y ∧ x * y ≤ 18446744065119617025 := fun x y h1 h2 h3 h4 =>
    ⟨Int.mul_nonneg h1 h3, by have := Int.mul_le_mul h2 h4 h3 (by omega : (0 : Int) ≤ 4294967295); omega⟩
  have q11 := bd (a / 4294967296) (b / 4294967296) (by omega) (by omega) (by omega) (by omega)
  have q10 := bd (a / 4294967296) (b % 4294967296) (by omega) (by omega) (by omega) (by omega)
  have q01 := bd (a % 4294967296) (b / 4294967296) (by omega) (by omega) (by omega) (by omega)
  have q00 := bd (a % 4294967296) (b % 4294967296) (by omega) (by omega) (by omega) (by omega)
  have e : a * b = (a / 4294967296) * (b / 4294967296) * 18446744073709551616 + ((a / 4294967296) * (b % 4294967296) + (a % 4294967296) * (b / 4294967296)) * 4294967296 + (a % 4294967296) * (b % 4294967296) := by
    conv => lhs; rw [← Int.mul_ediv_add_emod a 4294967296, ← Int.mul_ediv_add_emod b 4294967296]
    generalize a / 4294967296 = x
    generalize a % 4294967296 = y
    generalize b / 4294967296 = z
    generalize b % 4294967296 = t
    grind
  have e0 : IntKind.u64.wrap (a * b) = a * b % 18446744073709551616 := wrap_u64_eq _
  rw [e0]
  generalize a * b = ab at *
  generalize (a / 4294967296) * (b / 4294967296) = p11 at *
  generalize (a / 4294967296) * (b % 4294967296) = p10 at *
  generalize (a % 4294967296) * (b / 4294967296) = p01 at *
  generalize (a % 4294967296) * (b % 4294967296) = p00 at *
  rw [wrap_u64 (n := p00) (by omega) (by omega), wrap_u64 (n := p11) (by omega) (by omega), wrap_u64 (n := p01) (by omega) (by omega), wrap_u64 (n := p10) (by omega) (by omega)]
  rw [wrap_u64 (n := p10 + p00 / 4294967296) (by omega) (by omega), and_mask32 (w := p10 + p00 / 4294967296) (by omega) (by omega)]
  rw [wrap_u64 (n := (p10 + p00 / 4294967296) % 4294967296 + p01) (by omega) (by omega), wrap_u64 (n := p11 + (p10 + p00 / 4294967296) / 4294967296) (by omega) (by omega), wrap_u64 (by omega) (by omega)]
  have : p11 + (p10 + p00 / 4294967296) / 4294967296 + ((p10 + p00 / 4294967296) % 4294967296 + p01) / 4294967296 = ab / 18446744073709551616 := by omega
  rw [this]

noncomputable def orc : Orc := orc2 (pN .u64) (pN .u64) sp
theorem fnok : FnOk Tryz.prog E 283 Tryz.f283 cod := fnOk ty_ok mixed (callsOk_of _ rfl orcs_nil (ext_ok)) Tryz.func283 rfl rfl rfl
theorem ok : OrcOk Tryz.prog base.glob 283 orc := fnok.ok2 rfl spec
end Mul64
end Go.Proofs.YtknafopmgaolmaaGreatDoor.W

/- gnomon/natdiv.takeMul -/
namespace Go.Proofs.YtknafopmgaolmaaGreatDoor.W
open Go Go.Proofs.YtknafopmgaolmaaGreatDoor.AI Go.Proofs.YtknafopmgaolmaaGreatDoor.M
namespace VTake
noncomputable def E : Env := { ({ base with C := callsOf [(283, Mul64.orc)], n0 := 1, io := [0] }) with nt := 66, own := [45, 61], keep := fun k => (tlook [(3, [0, 1, 2, 7, 8, 14, 15])] k).getD [], cut := tlook [] }
noncomputable def cod : Code := (Go.Proofs.Tryz.f261.body).getD .skip
theorem nok : namesOk E cod = true := by kernel_rfl
noncomputable def L3 (xs0 : List Int) (m1 : Nat) (m2 : Nat) (xs3 : List Int) (x4 : Int) (x5 : Int) (x6 : Int) (x7 : Int) (x8 : Int) : Option (List D) := lpO E Go.Proofs.Tryz.f261 cod 3 [(A.any, some { e := (23 : Nat), cont := Cont.ints IntKind.u64 xs0 }), (A.v (V.one (L.view (0 : Nat) m1 m2)), none), (A.v (V.one (L.s (S.ints IntKind.u64 xs3))), none), (A.v (V.one (L.s (S.sc (Value.int IntKind.u64 x4)))), none), (A.v (V.one (L.s (S.sc (Value.int IntKind.u64 x5)))), none), (A.v (V.one (L.s (S.sc (Value.int IntKind.u64 x6)))), none), (A.v (V.one (L.s (S.sc (Value.int IntKind.i64 x7)))), none), (A.v (V.one (L.s (S.sc (Value.int IntKind.i64 x8)))), none)]
theorem start (al : List Int) (ao : Nat) (an : Nat) (b : List Int) (c : Int) : evalFn E Go.Proofs.Tryz.f261 cod [D.io tU64 IntKind.u64 al ao an, D.s (S.ints IntKind.u64 b), D.s (S.sc (Value.int IntKind.u64 c))] = VTake.L3 al ao an b c (0 : Int) (0 : Int) (↑b.length : Int) (0 : Int) := (evalFn_J rfl nok _).trans (by kernel_rfl)
theorem L3_eq (xs0 : List Int) (m1 : Nat) (m2 : Nat) (xs3 : List Int) (x4 : Int) (x5 : Int) (x6 : Int) (x7 : Int) (x8 : Int) : L3 xs0 m1 m2 xs3 x4 x5 x6 x7 x8 = bcase (decide (x8 < x7)) (if (0 : Int) ≤ x8 ∧ x8 < (↑xs3.length : Int) then gif ((0 : Int) ≤ xs3.getD x8.toNat (0 : Int) ∧ xs3.getD x8.toNat (0 : Int) < (18446744073709551616 : Int) ∧ (0 : Int) ≤ x4 ∧ x4 < (18446744073709551616 : Int)) (gif ((0 : Int) ≤ xs3.getD x8.toNat (0 : Int) * x4 % (18446744073709551616 : Int) ∧ (0 : Int) ≤ x5 ∧ (0 : Int) ≤ (0 : Int) ∧ (0 : Int) ≤ (1 : Int)) (if (0 : Int) ≤ x8 ∧ x8 < (↑m2 : Int) then gif ((0 : Int) ≤ xs0.getD (m1 + x8.toNat) (0 : Int) ∧ (0 : Int) ≤ (xs3.getD x8.toNat (0 : Int) * x4 % (18446744073709551616 : Int) + x5 + (0 : Int)) % (18446744073709551616 : Int) ∧ (xs3.getD x8.toNat (0 : Int) * x4 % (18446744073709551616 : Int) + x5 + (0 : Int)) % (18446744073709551616 : Int) < (18446744073709551616 : Int) ∧ (0 : Int) ≤ x6 ∧ x6 ≤ (1 : Int)) (if (0 : Int) ≤ x8 ∧ x8 < (↑m2 : Int) then VTake.L3 (xs0.set (m1 + x8.toNat) ((xs0.getD (m1 + x8.toNat) (0 : Int) - (xs3.getD x8.toNat (0 : Int) * x4 % (18446744073709551616 : Int) + x5 + (0 : Int)) % (18446744073709551616 : Int) - x6) % (18446744073709551616 : Int))) m1 m2 xs3 x4 (IntKind.u64.wrap (xs3.getD x8.toNat (0 : Int) * x4 / (18446744073709551616 : Int) + (xs3.getD x8.toNat (0 : Int) * x4 % (18446744073709551616 : Int) + x5 + (0 : Int)) / (18446744073709551616 : Int))) (if xs0.getD (m1 + x8.toNat) (0 : Int) < (xs3.getD x8.toNat (0 : Int) * x4 % (18446744073709551616 : Int) + x5 + (0 : Int)) % (18446744073709551616 : Int) + x6 then (1 : Int) else (0 : Int)) x7 (IntKind.i64.wrap (x8 + (1 : Int))) else none) else none)) else none) (if (0 : Int) ≤ (↑xs3.length : Int) ∧ (↑xs3.length : Int) < (↑m2 : Int) then gif ((0 : Int) ≤ xs0.getD (m1 + (↑xs3.length : Int).toNat) (0 : Int) ∧ (0 : Int) ≤ x5 ∧ x5 < (18446744073709551616 : Int) ∧ (0 : Int) ≤ x6 ∧ x6 ≤ (1 : Int)) (if (0 : Int) ≤ (↑xs3.length : Int) ∧ (↑xs3.length : Int) < (↑m2 : Int) then some [D.s (S.sc (Value.int IntKind.u64 (if xs0.getD (m1 + (↑xs3.length : Int).toNat) (0 : Int) < x5 + x6 then (1 : Int) else (0 : Int)))), D.io (23 : Nat) IntKind.u64 (xs0.set (m1 + (↑xs3.length : Int).toNat) ((xs0.getD (m1 + (↑xs3.length : Int).toNat) (0 : Int) - x5 - x6) % (18446744073709551616 : Int))) (0 : Nat) (0 : Nat)] else none) else none) := (loopAt_J rfl nok 3 _).trans (by kernel_rfl)
-- stuck: 0
end VTake
namespace VTake
/-- What is owed at a window's end. -/
def owe (v o n X : Nat) : Nat := if v / 18446744073709551616 ^ o % 18446744073709551616 ^ n < X then 1 else 0
noncomputable def sp (x : List Int × Nat × Nat) (b : List Int) (w : Int) : Prop × List D := (M6.Dig x.1 ∧ x.2.2 = b.length + 1 ∧ x.2.1 + x.2.2 ≤ x.1.length ∧ M6.Dig b ∧ x.1.length ≤ 1099511627776 ∧ 0 ≤ w ∧ w < 18446744073709551616,
  [.s (.sc (.int .u64 (owe (M6.val x.1) x.2.1 x.2.2 (M6.val b * w.toNat)))), .io tU64 .u64 (M6.fdg x.1.length (M6.val x.1 + 18446744073709551616 ^ (x.2.1 + x.2.2) * owe (M6.val x.1) x.2.1 x.2.2 (M6.val b * w.toNat) - 18446744073709551616 ^ x.2.1 * (M6.val b * w.toNat))) 0 0])
theorem fin {a z' : List Int} {o n X c N : Nat} (hc1 : c ≤ 1) (hd : M6.Dig a) (hd' : M6.Dig z') (hl : z'.length = N) (h1 : z'.take o = a.take o) (h2 : z'.drop (o + n) = a.drop (o + n)) (h : M6.val z' + 18446744073709551616 ^ o * X = M6.val a + 18446744073709551616 ^ (o + n) * c) :
    c = owe (M6.val a) o n X ∧ z' = M6.fdg N (M6.val a + 18446744073709551616 ^ (o + n) * owe (M6.val a) o n X - 18446744073709551616 ^ o * X) := by
  obtain ⟨k1, k2⟩ := M6.win_keep hd hd' h1 h2
  have e := M6.win_owed k1 k2 h
  have hlt := M6.win_lt (M6.val z') o n
  have hc : c = owe (M6.val a) o n X := by
    unfold owe
    have : c = 0 ∨ c = 1 := by omega
    rcases this with rfl | rfl
    · rw [if_neg (by omega)]
    · rw [if_pos (by omega)]
  subst hc
  exact ⟨rfl, M6.fdg_of hd' hl (by omega)⟩
theorem tstep {x C s : Int} {p : Nat} (hp : p ≤ 340282366920938463426481119284349108225) (h0 : 0 ≤ x) (h1 : x < 18446744073709551616) (h2 : 0 ≤ C) (h3 : C < 18446744073709551616) (h4 : 0 ≤ s) (h5 : s ≤ 1) :
    (0 ≤ (p : Int) / 18446744073709551616 + ((p : Int) % 18446744073709551616 + C + 0) / 18446744073709551616 ∧ (p : Int) / 18446744073709551616 + ((p : Int) % 18446744073709551616 + C + 0) / 18446744073709551616 < 18446744073709551616) ∧
    ((x - ((p : Int) % 18446744073709551616 + C + 0) % 18446744073709551616 - s) % 18446744073709551616).toNat + p + C.toNat + s.toNat = x.toNat + 18446744073709551616 * (((p : Int) / 18446744073709551616 + ((p : Int) % 18446744073709551616 + C + 0) / 18446744073709551616).toNat + (if x < ((p : Int) % 18446744073709551616 + C + 0) % 18446744073709551616 + s then (1 : Int) else 0).toNat) := by
  split <;> omega
theorem L {a b : List Int} {o : Nat} {w : Int} (hN : a.length ≤ 1099511627776) (ha : M6.Dig a) (hb : M6.Dig b) (ho : o + (b.length + 1) ≤ a.length) (hw0 : 0 ≤ w) (hw1 : w < 18446744073709551616) : ∀ (r i : Nat) (z : List Int) (C s : Int), i + r = b.length → z.length = a.length → M6.Dig z → 0 ≤ C → C < 18446744073709551616 → 0 ≤ s → s ≤ 1 → z.take o = a.take o → z.drop (o + (b.length + 1)) = a.drop (o + (b.length + 1)) →
    M6.val z + 18446744073709551616 ^ o * (M6.val (b.take i) * w.toNat) = M6.val a + 18446744073709551616 ^ (o + i) * (C.toNat + s.toNat) →
    L3 z o (b.length + 1) b w C s b.length i = some [.s (.sc (.int .u64 (owe (M6.val a) o (b.length + 1) (M6.val b * w.toNat)))), .io tU64 .u64 (M6.fdg a.length (M6.val a + 18446744073709551616 ^ (o + (b.length + 1)) * owe (M6.val a) o (b.length + 1) (M6.val b * w.toNat) - 18446744073709551616 ^ o * (M6.val b * w.toNat))) 0 0] := by
  intro r
  induction r with
  | zero =>
    intro i z C s hi hz hd h0 h1 h2 h3 ht hdr hv
    have hib : i = b.length := by omega
    subst hib
    rw [List.take_length] at hv
    have g := hd.get (o + b.length)
    rw [L3_eq, bD_neg (by omega), if_pos (by omega), Int.toNat_natCast, gP ⟨g.1, h0, h1, h2, h3⟩, if_pos (by omega)]
    have hs := M6.val_set (a := z) (j := o + b.length) (by omega) ((z.getD (o + b.length) 0 - C - s) % 18446744073709551616)
    have hf := fin (a := a) (z' := z.set (o + b.length) ((z.getD (o + b.length) 0 - C - s) % 18446744073709551616)) (o := o) (n := b.length + 1) (X := M6.val b * w.toNat) (c := (if z.getD (o + b.length) 0 < C + s then (1 : Int) else 0).toNat) (N := a.length) (by split <;> omega) ha (M6.dig_set hd (by omega)) (by simp [hz]) (by rw [List.take_set_of_le (by omega)]; exact ht) (by rw [List.drop_set_of_lt (by omega)]; exact hdr) (by
      rw [← Nat.add_assoc o, Nat.pow_succ, Nat.mul_assoc]
      generalize z.getD (o + b.length) 0 = x at *
      generalize M6.val (z.set (o + b.length) _) = W at *
      generalize 18446744073709551616 ^ (o + b.length) = P at *
      have e : ((x - C - s) % 18446744073709551616).toNat + (C.toNat + s.toNat) = x.toNat + 18446744073709551616 * (if x < C + s then (1 : Int) else 0).toNat := by split <;> omega
      have e2 : P * ((x - C - s) % 18446744073709551616).toNat + P * (C.toNat + s.toNat) = P * x.toNat + P * (18446744073709551616 * (if x < C + s then (1 : Int) else 0).toNat) := by
        rw [← Nat.mul_add, e, Nat.mul_add]
      omega)
    rw [← hf.2, ← hf.1, Int.toNat_of_nonneg (by split <;> omega)]
  | succ r ih =>
    intro i z C s hi hz hd h0 h1 h2 h3 ht hdr hv
    have g := hd.get (o + i)
    have g2 := hb.get i
    have w2 : IntKind.i64.wrap ((i : Int) + 1) = ((i + 1 : Nat) : Int) := by rw [wrap_i64 (by omega) (by omega)]; omega
    obtain ⟨X, hX⟩ := Int.eq_ofNat_of_zero_le g2.1
    obtain ⟨Y, hY⟩ := Int.eq_ofNat_of_zero_le hw0
    have hXY : X * Y ≤ 340282366920938463426481119284349108225 := by
      have h2 : X ≤ 18446744073709551615 := by omega
      have h3 : Y ≤ 18446744073709551615 := by omega
      have := Nat.mul_le_mul h2 h3
      omega
    obtain ⟨k1, k2⟩ := tstep hXY g.1 g.2 h0 h1 h2 h3
    rw [L3_eq, bD_pos (by omega), if_pos (by omega), w2]
    simp only [Int.toNat_natCast]
    have hq : b.getD i 0 * w = ((X * Y : Nat) : Int) := by rw [hX, hY]; simp
    rw [gP ⟨g2.1, g2.2, hw0, hw1⟩]
    simp only [hq]
    rw [gP ⟨by omega, by omega, by omega, by omega⟩, if_pos (by omega), gP ⟨g.1, by omega, by omega, h2, h3⟩, if_pos (by omega), wrap_u64 k1.1 k1.2]
    refine ih (i + 1) _ _ (if z.getD (o + i) 0 < (((X * Y : Nat) : Int) % 18446744073709551616 + C + 0) % 18446744073709551616 + s then (1 : Int) else 0) (by omega) (by simp [hz]) (M6.dig_set hd (by omega)) k1.1 k1.2 (by split <;> omega) (by split <;> omega) (by rw [List.take_set_of_le (by omega)]; exact ht) (by rw [List.drop_set_of_lt (by omega)]; exact hdr) ?_
    have hs := M6.val_set (a := z) (j := o + i) (by omega) ((z.getD (o + i) 0 - (((X * Y : Nat) : Int) % 18446744073709551616 + C + 0) % 18446744073709551616 - s) % 18446744073709551616)
    have e0 : 18446744073709551616 ^ o * (M6.val (b.take (i + 1)) * w.toNat) = 18446744073709551616 ^ o * (M6.val (b.take i) * w.toNat) + 18446744073709551616 ^ (o + i) * (X * Y) := by
      rw [M6.val_take_one, hX, hY, Int.toNat_natCast, Int.toNat_natCast, Nat.add_mul, Nat.mul_add, Nat.pow_add, Nat.mul_assoc, Nat.mul_assoc]
    rw [e0, show o + (i + 1) = (o + i) + 1 from by omega, Nat.pow_succ, Nat.mul_assoc]
    generalize ((z.getD (o + i) 0 - (((X * Y : Nat) : Int) % 18446744073709551616 + C + 0) % 18446744073709551616 - s) % 18446744073709551616) = d at *
    generalize (((X * Y : Nat) : Int) / 18446744073709551616 + (((X * Y : Nat) : Int) % 18446744073709551616 + C + 0) / 18446744073709551616).toNat = C' at *
    generalize (if z.getD (o + i) 0 < (((X * Y : Nat) : Int) % 18446744073709551616 + C + 0) % 18446744073709551616 + s then (1 : Int) else 0).toNat = s' at *
    generalize X * Y = q at *
    generalize 18446744073709551616 ^ (o + i) = P at *
    generalize M6.val (z.set (o + i) d) = W at *
    generalize (z.getD (o + i) 0).toNat = x at *
    generalize 18446744073709551616 ^ o * (M6.val (b.take i) * w.toNat) = U at *
    have e2 : P * d.toNat + P * q + P * (C.toNat + s.toNat) = P * x + P * (18446744073709551616 * (C' + s')) := by
      rw [← Nat.mul_add, ← Nat.mul_add, ← Nat.mul_add]
      congr 1
      omega
    omega
theorem bound {v o n N X : Nat} (hv : v < 18446744073709551616 ^ N) (hon : o + n ≤ N) (hX : X < 18446744073709551616 ^ n) : v + 18446744073709551616 ^ (o + n) * owe v o n X - 18446744073709551616 ^ o * X < 18446744073709551616 ^ N := by
  have e1 := M6.win_split v o n
  have hW := M6.win_lt v o n
  have hT : v / 18446744073709551616 ^ (o + n) < 18446744073709551616 ^ (N - (o + n)) := by
    apply Nat.div_lt_of_lt_mul
    rw [← Nat.pow_add, show o + n + (N - (o + n)) = N from by omega]
    exact hv
  have hL : v % 18446744073709551616 ^ o < 18446744073709551616 ^ o := Nat.mod_lt _ (Nat.pow_pos (by omega))
  have s2 : 18446744073709551616 ^ (o + n) * (v / 18446744073709551616 ^ (o + n) + 1) ≤ 18446744073709551616 ^ N := by
    have := Nat.mul_le_mul_left (18446744073709551616 ^ (o + n)) hT
    rw [← Nat.pow_add, show o + n + (N - (o + n)) = N from by omega] at this
    exact this
  rw [Nat.mul_add] at s2
  unfold owe
  generalize v / 18446744073709551616 ^ o % 18446744073709551616 ^ n = W at *
  generalize v % 18446744073709551616 ^ o = L at *
  generalize v / 18446744073709551616 ^ (o + n) = T at *
  split
  · rename_i hlt
    have : 18446744073709551616 ^ o * (W + 1) ≤ 18446744073709551616 ^ o * X := Nat.mul_le_mul_left _ hlt
    rw [Nat.mul_add] at this
    omega
  · omega
theorem spec (x : List Int × Nat × Nat) (b : List Int) (w : Int) (h : (sp x b w).1) : evalFn E Tryz.f261 cod [(pIO tU64 .u64).put x, (pI .u64).put b, (pN .u64).put w] = some (sp x b w).2 ∧ ∃ rs ns', (sp x b w).2 = rs ++ [.io tU64 .u64 ns' 0 0] ∧ ns'.length = x.1.length := by
  obtain ⟨xl, o, n⟩ := x
  obtain ⟨hd, hn, ho, hb, hN, hw0, hw1⟩ := h
  simp only at hd hn ho hN
  subst hn
  refine ⟨(start xl o (b.length + 1) b w).trans ?_, [_], _, rfl, M6.fdg_len (bound (M6.val_lt hd) ho ?_)⟩
  · exact L hN hd hb ho hw0 hw1 b.length 0 xl 0 0 (by omega) rfl hd (by omega) (by omega) (by omega) (by omega) rfl rfl (by simp [M6.val])
  · rw [Nat.pow_succ]
    exact Nat.mul_lt_mul'' (M6.val_lt hb) (by omega)

noncomputable def orc : Orc := orc3 (pIO tU64 .u64) (pI .u64) (pN .u64) sp
theorem fnok : FnOkIO Tryz.prog E 261 Tryz.f261 cod := fnOkIO ty_ok mixed (callsOk_of _ rfl (orcs_cons Mul64.ok orcs_nil) (ext_ok)) Tryz.func261 rfl rfl rfl rfl rfl
theorem ok : OrcIO Tryz.prog base.glob 261 orc := fnok.ok3 rfl spec
end VTake
end Go.Proofs.YtknafopmgaolmaaGreatDoor.W

/- gnomon/natdiv.giveBack -/
namespace Go.Proofs.YtknafopmgaolmaaGreatDoor.W
open Go Go.Proofs.YtknafopmgaolmaaGreatDoor.AI Go.Proofs.YtknafopmgaolmaaGreatDoor.M
namespace VGive
noncomputable def E : Env := { ({ base with n0 := 1, io := [0] }) with nt := 44, own := [24, 39], keep := fun k => (tlook [(3, [0, 1, 5, 8, 9])] k).getD [], cut := tlook [] }
noncomputable def cod : Code := (Go.Proofs.Tryz.f262.body).getD .skip
theorem nok : namesOk E cod = true := by kernel_rfl
noncomputable def L3 (xs0 : List Int) (m1 : Nat) (m2 : Nat) (xs3 : List Int) (x4 : Int) (x5 : Int) (x6 : Int) : Option (List D) := lpO E Go.Proofs.Tryz.f262 cod 3 [(A.any, some { e := (23 : Nat), cont := Cont.ints IntKind.u64 xs0 }), (A.v (V.one (L.view (0 : Nat) m1 m2)), none), (A.v (V.one (L.s (S.ints IntKind.u64 xs3))), none), (A.v (V.one (L.s (S.sc (Value.int IntKind.u64 x4)))), none), (A.v (V.one (L.s (S.sc (Value.int IntKind.i64 x5)))), none), (A.v (V.one (L.s (S.sc (Value.int IntKind.i64 x6)))), none)]
theorem start (al : List Int) (ao : Nat) (an : Nat) (b : List Int) : evalFn E Go.Proofs.Tryz.f262 cod [D.io tU64 IntKind.u64 al ao an, D.s (S.ints IntKind.u64 b)] = VGive.L3 al ao an b (0 : Int) (↑b.length : Int) (0 : Int) := (evalFn_J rfl nok _).trans (by kernel_rfl)
theorem L3_eq (xs0 : List Int) (m1 : Nat) (m2 : Nat) (xs3 : List Int) (x4 : Int) (x5 : Int) (x6 : Int) : L3 xs0 m1 m2 xs3 x4 x5 x6 = bcase (decide (x6 < x5)) (if (0 : Int) ≤ x6 ∧ x6 < (↑m2 : Int) then if (0 : Int) ≤ x6 ∧ x6 < (↑xs3.length : Int) then gif ((0 : Int) ≤ xs0.getD (m1 + x6.toNat) (0 : Int) ∧ (0 : Int) ≤ xs3.getD x6.toNat (0 : Int) ∧ (0 : Int) ≤ x4 ∧ x4 ≤ (1 : Int)) (if (0 : Int) ≤ x6 ∧ x6 < (↑m2 : Int) then VGive.L3 (xs0.set (m1 + x6.toNat) ((xs0.getD (m1 + x6.toNat) (0 : Int) + xs3.getD x6.toNat (0 : Int) + x4) % (18446744073709551616 : Int))) m1 m2 xs3 ((xs0.getD (m1 + x6.toNat) (0 : Int) + xs3.getD x6.toNat (0 : Int) + x4) / (18446744073709551616 : Int)) x5 (IntKind.i64.wrap (x6 + (1 : Int))) else none) else none else none) (if (0 : Int) ≤ (↑xs3.length : Int) ∧ (↑xs3.length : Int) < (↑m2 : Int) then gif ((0 : Int) ≤ xs0.getD (m1 + (↑xs3.length : Int).toNat) (0 : Int) ∧ (0 : Int) ≤ (0 : Int) ∧ (0 : Int) ≤ x4 ∧ x4 ≤ (1 : Int)) (if (0 : Int) ≤ (↑xs3.length : Int) ∧ (↑xs3.length : Int) < (↑m2 : Int) then some [D.s (S.sc (Value.int IntKind.u64 ((xs0.getD (m1 + (↑xs3.length : Int).toNat) (0 : Int) + (0 : Int) + x4) / (18446744073709551616 : Int)))), D.io (23 : Nat) IntKind.u64 (xs0.set (m1 + (↑xs3.length : Int).toNat) ((xs0.getD (m1 + (↑xs3.length : Int).toNat) (0 : Int) + (0 : Int) + x4) % (18446744073709551616 : Int))) (0 : Nat) (0 : Nat)] else none) else none) := (loopAt_J rfl nok 3 _).trans (by kernel_rfl)
-- stuck: 0
end VGive
namespace VGive
/-- What is carried out of a window. -/
def car (v o n X : Nat) : Nat := (v / 18446744073709551616 ^ o % 18446744073709551616 ^ n + X) / 18446744073709551616 ^ n
noncomputable def sp (x : List Int × Nat × Nat) (b : List Int) : Prop × List D := (M6.Dig x.1 ∧ x.2.2 = b.length + 1 ∧ x.2.1 + x.2.2 ≤ x.1.length ∧ M6.Dig b ∧ x.1.length ≤ 1099511627776,
  [.s (.sc (.int .u64 (car (M6.val x.1) x.2.1 x.2.2 (M6.val b)))), .io tU64 .u64 (M6.fdg x.1.length (M6.val x.1 + 18446744073709551616 ^ x.2.1 * M6.val b - 18446744073709551616 ^ (x.2.1 + x.2.2) * car (M6.val x.1) x.2.1 x.2.2 (M6.val b))) 0 0])
theorem fin {a z' : List Int} {o n X c N : Nat} (hd : M6.Dig a) (hd' : M6.Dig z') (hl : z'.length = N) (h1 : z'.take o = a.take o) (h2 : z'.drop (o + n) = a.drop (o + n)) (h : M6.val z' + 18446744073709551616 ^ (o + n) * c = M6.val a + 18446744073709551616 ^ o * X) :
    c = car (M6.val a) o n X ∧ z' = M6.fdg N (M6.val a + 18446744073709551616 ^ o * X - 18446744073709551616 ^ (o + n) * car (M6.val a) o n X) := by
  obtain ⟨k1, k2⟩ := M6.win_keep hd hd' h1 h2
  have e := M6.win_owed k1.symm k2.symm h.symm
  have hlt := M6.win_lt (M6.val z') o n
  have hc : c = car (M6.val a) o n X := by
    unfold car
    rw [e]
    rw [Nat.add_mul_div_left _ _ (Nat.pow_pos (by omega)), Nat.div_eq_of_lt hlt, Nat.zero_add]
  subst hc
  exact ⟨rfl, M6.fdg_of hd' hl (by omega)⟩
theorem L {a b : List Int} {o : Nat} (hN : a.length ≤ 1099511627776) (ha : M6.Dig a) (hb : M6.Dig b) (ho : o + (b.length + 1) ≤ a.length) : ∀ (r i : Nat) (z : List Int) (c : Int), i + r = b.length → z.length = a.length → M6.Dig z → 0 ≤ c → c ≤ 1 → z.take o = a.take o → z.drop (o + (b.length + 1)) = a.drop (o + (b.length + 1)) →
    M6.val z + 18446744073709551616 ^ (o + i) * c.toNat = M6.val a + 18446744073709551616 ^ o * M6.val (b.take i) →
    L3 z o (b.length + 1) b c b.length i = some [.s (.sc (.int .u64 (car (M6.val a) o (b.length + 1) (M6.val b)))), .io tU64 .u64 (M6.fdg a.length (M6.val a + 18446744073709551616 ^ o * M6.val b - 18446744073709551616 ^ (o + (b.length + 1)) * car (M6.val a) o (b.length + 1) (M6.val b))) 0 0] := by
  intro r
  induction r with
  | zero =>
    intro i z c hi hz hd h0 h1 ht hdr hv
    have hib : i = b.length := by omega
    subst hib
    rw [List.take_length] at hv
    have g := hd.get (o + b.length)
    rw [L3_eq, bD_neg (by omega), if_pos (by omega), Int.toNat_natCast, gP ⟨g.1, by omega, h0, h1⟩, if_pos (by omega)]
    have hs := M6.val_set (a := z) (j := o + b.length) (by omega) ((z.getD (o + b.length) 0 + 0 + c) % 18446744073709551616)
    have hf := fin (a := a) (z' := z.set (o + b.length) ((z.getD (o + b.length) 0 + 0 + c) % 18446744073709551616)) (o := o) (n := b.length + 1) (X := M6.val b) (c := ((z.getD (o + b.length) 0 + 0 + c) / 18446744073709551616).toNat) (N := a.length) ha (M6.dig_set hd (by omega)) (by simp [hz]) (by rw [List.take_set_of_le (by omega)]; exact ht) (by rw [List.drop_set_of_lt (by omega)]; exact hdr) (by
      rw [← Nat.add_assoc o, Nat.pow_succ, Nat.mul_assoc]
      generalize z.getD (o + b.length) 0 = x at *
      generalize M6.val (z.set (o + b.length) _) = W at *
      generalize 18446744073709551616 ^ (o + b.length) = P at *
      have e : ((x + 0 + c) % 18446744073709551616).toNat + 18446744073709551616 * ((x + 0 + c) / 18446744073709551616).toNat = x.toNat + c.toNat := by omega
      have e2 : P * ((x + 0 + c) % 18446744073709551616).toNat + P * (18446744073709551616 * ((x + 0 + c) / 18446744073709551616).toNat) = P * x.toNat + P * c.toNat := by
        rw [← Nat.mul_add, e, Nat.mul_add]
      omega)
    rw [← hf.2, ← hf.1, Int.toNat_of_nonneg (by omega)]
  | succ r ih =>
    intro i z c hi hz hd h0 h1 ht hdr hv
    have g := hd.get (o + i)
    have g2 := hb.get i
    have w2 : IntKind.i64.wrap ((i : Int) + 1) = ((i + 1 : Nat) : Int) := by rw [wrap_i64 (by omega) (by omega)]; omega
    rw [L3_eq, bD_pos (by omega), if_pos (by omega), if_pos (by omega), Int.toNat_natCast, gP ⟨g.1, g2.1, h0, h1⟩, if_pos (by omega), w2]
    refine ih (i + 1) _ _ (by omega) (by simp [hz]) (M6.dig_set hd (by omega)) (by omega) (by omega) (by rw [List.take_set_of_le (by omega)]; exact ht) (by rw [List.drop_set_of_lt (by omega)]; exact hdr) ?_
    have hs := M6.val_set (a := z) (j := o + i) (by omega) ((z.getD (o + i) 0 + b.getD i 0 + c) % 18446744073709551616)
    rw [M6.val_take_one, Nat.mul_add, ← Nat.mul_assoc, ← Nat.pow_add, show o + (i + 1) = (o + i) + 1 from by omega, Nat.pow_succ, Nat.mul_assoc]
    generalize z.getD (o + i) 0 = x at *
    generalize b.getD i 0 = y at *
    generalize M6.val (z.set (o + i) _) = W at *
    generalize 18446744073709551616 ^ (o + i) = P at *
    generalize 18446744073709551616 ^ o * M6.val (b.take i) = U at *
    have e : ((x + y + c) % 18446744073709551616).toNat + 18446744073709551616 * ((x + y + c) / 18446744073709551616).toNat = x.toNat + y.toNat + c.toNat := by omega
    have e2 : P * ((x + y + c) % 18446744073709551616).toNat + P * (18446744073709551616 * ((x + y + c) / 18446744073709551616).toNat) = P * x.toNat + P * y.toNat + P * c.toNat := by
      rw [← Nat.mul_add, e, Nat.mul_add, Nat.mul_add]
    omega
theorem bound {v o n N X : Nat} (hv : v < 18446744073709551616 ^ N) (hon : o + n ≤ N) : v + 18446744073709551616 ^ o * X - 18446744073709551616 ^ (o + n) * car v o n X < 18446744073709551616 ^ N := by
  have e1 := M6.win_split v o n
  unfold car
  generalize hW : v / 18446744073709551616 ^ o % 18446744073709551616 ^ n = W at *
  have h2 := Nat.mod_add_div (W + X) (18446744073709551616 ^ n)
  have h3 : (W + X) % 18446744073709551616 ^ n < 18446744073709551616 ^ n := Nat.mod_lt _ (Nat.pow_pos (by omega))
  generalize (W + X) / 18446744073709551616 ^ n = c at *
  generalize (W + X) % 18446744073709551616 ^ n = M at *
  have hL : v % 18446744073709551616 ^ o < 18446744073709551616 ^ o := Nat.mod_lt _ (Nat.pow_pos (by omega))
  have hT : v / 18446744073709551616 ^ (o + n) < 18446744073709551616 ^ (N - (o + n)) := by
    apply Nat.div_lt_of_lt_mul
    rw [← Nat.pow_add, show o + n + (N - (o + n)) = N from by omega]
    exact hv
  generalize v % 18446744073709551616 ^ o = L at *
  generalize v / 18446744073709551616 ^ (o + n) = T at *
  have e3 : 18446744073709551616 ^ (o + n) * c = 18446744073709551616 ^ o * (18446744073709551616 ^ n * c) := by rw [Nat.pow_add, Nat.mul_assoc]
  have e4 : 18446744073709551616 ^ o * (W + X) = 18446744073709551616 ^ o * M + 18446744073709551616 ^ o * (18446744073709551616 ^ n * c) := by rw [← h2, Nat.mul_add]
  rw [Nat.mul_add] at e4
  have e5 : v + 18446744073709551616 ^ o * X - 18446744073709551616 ^ (o + n) * c = L + 18446744073709551616 ^ o * M + 18446744073709551616 ^ (o + n) * T := by omega
  rw [e5]
  have s1 : L + 18446744073709551616 ^ o * M < 18446744073709551616 ^ (o + n) := by
    have : 18446744073709551616 ^ o * (M + 1) ≤ 18446744073709551616 ^ o * 18446744073709551616 ^ n := Nat.mul_le_mul_left _ h3
    rw [← Nat.pow_add, Nat.mul_add] at this
    omega
  have s2 : 18446744073709551616 ^ (o + n) * (T + 1) ≤ 18446744073709551616 ^ N := by
    have := Nat.mul_le_mul_left (18446744073709551616 ^ (o + n)) hT
    rw [← Nat.pow_add, show o + n + (N - (o + n)) = N from by omega] at this
    exact this
  rw [Nat.mul_add] at s2
  omega
theorem spec (x : List Int × Nat × Nat) (b : List Int) (h : (sp x b).1) : evalFn E Tryz.f262 cod [(pIO tU64 .u64).put x, (pI .u64).put b] = some (sp x b).2 ∧ ∃ rs ns', (sp x b).2 = rs ++ [.io tU64 .u64 ns' 0 0] ∧ ns'.length = x.1.length := by
  obtain ⟨xl, o, n⟩ := x
  obtain ⟨hd, hn, ho, hb, hN⟩ := h
  simp only at hd hn ho hN
  subst hn
  refine ⟨(start xl o (b.length + 1) b).trans ?_, [_], _, rfl, M6.fdg_len (bound (M6.val_lt hd) ho)⟩
  exact L hN hd hb ho b.length 0 xl 0 (by omega) rfl hd (by omega) (by omega) rfl rfl (by simp [M6.val])

noncomputable def orc : Orc := orc2 (pIO tU64 .u64) (pI .u64) sp
theorem fnok : FnOkIO Tryz.prog E 262 Tryz.f262 cod := fnOkIO ty_ok mixed (callsOk_of _ rfl orcs_nil (ext_ok)) Tryz.func262 rfl rfl rfl rfl rfl
theorem ok : OrcIO Tryz.prog base.glob 262 orc := fnok.ok2 rfl spec
end VGive
end Go.Proofs.YtknafopmgaolmaaGreatDoor.W

/- gnomon/natdiv.long -/
namespace Go.Proofs.YtknafopmgaolmaaGreatDoor.W
open Go Go.Proofs.YtknafopmgaolmaaGreatDoor.AI Go.Proofs.YtknafopmgaolmaaGreatDoor.M
namespace VLong
noncomputable def E : Env := { ({ base with C := callsIO [(261, VTake.orc), (262, VGive.orc)] (callsOf [(260, VTrial.orc)]), ioF := ioOf [(261, VTake.orc), (262, VGive.orc)], n0 := 1, io := [0] }) with nt := 72, own := [], keep := fun k => (tlook [(10, [0, 1, 5, 6, 7, 8, 9]), (4, [0, 1, 5, 6, 7])] k).getD [], cut := tlook [] }
noncomputable def cod : Code := (Go.Proofs.Tryz.f232.body).getD .skip
theorem nok : namesOk E cod = true := by kernel_rfl
noncomputable def L4 (xs0 : List Int) (m1 : Nat) (m2 : Nat) (xs3 : List Int) (x4 : Int) (m5 : Nat) (xs6 : List Int) (x7 : Int) : Option (List D) := lpO E Go.Proofs.Tryz.f232 cod 4 [(A.any, some { e := (23 : Nat), cont := Cont.ints IntKind.u64 xs0 }), (A.v (V.one (L.view (0 : Nat) m1 m2)), none), (A.v (V.one (L.s (S.ints IntKind.u64 xs3))), none), (A.v (V.one (L.s (S.sc (Value.int IntKind.i64 x4)))), none), (A.v (V.one (L.buf (4 : Nat) m5)), some { e := (23 : Nat), cont := Cont.ints IntKind.u64 xs6 }), (A.v (V.one (L.s (S.sc (Value.int IntKind.i64 x7)))), none)]
noncomputable def L10 (xs0 : List Int) (m1 : Nat) (m2 : Nat) (xs3 : List Int) (x4 : Int) (m5 : Nat) (xs6 : List Int) (x7 : Int) (x8 : Int) (m9 : Nat) (m10 : Nat) : Option (List D) := lpO E Go.Proofs.Tryz.f232 cod 10 [(A.any, some { e := (23 : Nat), cont := Cont.ints IntKind.u64 xs0 }), (A.v (V.one (L.view (0 : Nat) m1 m2)), none), (A.v (V.one (L.s (S.ints IntKind.u64 xs3))), none), (A.v (V.one (L.s (S.sc (Value.int IntKind.i64 x4)))), none), (A.v (V.one (L.buf (4 : Nat) m5)), some { e := (23 : Nat), cont := Cont.ints IntKind.u64 xs6 }), (A.v (V.one (L.s (S.sc (Value.int IntKind.i64 x7)))), none), (A.v (V.one (L.s (S.sc (Value.int IntKind.u64 x8)))), none), (A.v (V.one (L.view (0 : Nat) m9 m10)), none)]
theorem start (al : List Int) (ao : Nat) (an : Nat) (b : List Int) : evalFn E Go.Proofs.Tryz.f232 cod [D.io tU64 IntKind.u64 al ao an, D.s (S.ints IntKind.u64 b)] = if (0 : Int) ≤ IntKind.i64.wrap ((↑an : Int) - (↑b.length : Int)) ∧ IntKind.i64.wrap ((↑an : Int) - (↑b.length : Int)) ≤ IntKind.i64.wrap ((↑an : Int) - (↑b.length : Int)) ∧ IntKind.i64.wrap ((↑an : Int) - (↑b.length : Int)) ≤ (8796093022208 : Int) then VLong.L4 al ao an b (↑b.length : Int) (IntKind.i64.wrap ((↑an : Int) - (↑b.length : Int))).toNat (List.replicate (IntKind.i64.wrap ((↑an : Int) - (↑b.length : Int))).toNat (0 : Int)) (IntKind.i64.wrap (IntKind.i64.wrap ((↑an : Int) - (↑b.length : Int)) - (1 : Int))) else none := (evalFn_J rfl nok _).trans (by kernel_rfl)
theorem L4_eq (xs0 : List Int) (m1 : Nat) (m2 : Nat) (xs3 : List Int) (x4 : Int) (m5 : Nat) (xs6 : List Int) (x7 : Int) : L4 xs0 m1 m2 xs3 x4 m5 xs6 x7 = bcase (decide ((0 : Int) ≤ x7)) (if (0 : Int) ≤ IntKind.i64.wrap (x7 + x4) ∧ IntKind.i64.wrap (x7 + x4) < (↑m2 : Int) then if (0 : Int) ≤ IntKind.i64.wrap (IntKind.i64.wrap (x7 + x4) - (1 : Int)) ∧ IntKind.i64.wrap (IntKind.i64.wrap (x7 + x4) - (1 : Int)) < (↑m2 : Int) then if (0 : Int) ≤ IntKind.i64.wrap (x4 - (1 : Int)) ∧ IntKind.i64.wrap (x4 - (1 : Int)) < (↑xs3.length : Int) then gif ((0 : Int) ≤ xs0.getD (m1 + (IntKind.i64.wrap (x7 + x4)).toNat) (0 : Int) ∧ (0 : Int) ≤ xs0.getD (m1 + (IntKind.i64.wrap (IntKind.i64.wrap (x7 + x4) - (1 : Int))).toNat) (0 : Int) ∧ xs0.getD (m1 + (IntKind.i64.wrap (IntKind.i64.wrap (x7 + x4) - (1 : Int))).toNat) (0 : Int) < (18446744073709551616 : Int) ∧ xs3.getD (IntKind.i64.wrap (x4 - (1 : Int))).toNat (0 : Int) < (18446744073709551616 : Int)) (vlet (if xs3.getD (IntKind.i64.wrap (x4 - (1 : Int))).toNat (0 : Int) ≤ xs0.getD (m1 + (IntKind.i64.wrap (x7 + x4)).toNat) (0 : Int) then (18446744073709551615 : Int) else (↑(((xs0.getD (m1 + (IntKind.i64.wrap (x7 + x4)).toNat) (0 : Int)).toNat * (18446744073709551616 : Nat) + (xs0.getD (m1 + (IntKind.i64.wrap (IntKind.i64.wrap (x7 + x4) - (1 : Int))).toNat) (0 : Int)).toNat) / (xs3.getD (IntKind.i64.wrap (x4 - (1 : Int))).toNat (0 : Int)).toNat) : Int)) fun y0 => if (0 : Int) ≤ x7 ∧ x7 ≤ IntKind.i64.wrap (IntKind.i64.wrap (x7 + x4) + (1 : Int)) ∧ IntKind.i64.wrap (IntKind.i64.wrap (x7 + x4) + (1 : Int)) ≤ (↑m2 : Int) then gif (M6.Dig xs0 ∧ (IntKind.i64.wrap (IntKind.i64.wrap (x7 + x4) + (1 : Int))).toNat - x7.toNat = xs3.length + (1 : Nat) ∧ m1 + x7.toNat + ((IntKind.i64.wrap (IntKind.i64.wrap (x7 + x4) + (1 : Int))).toNat - x7.toNat) ≤ xs0.length ∧ M6.Dig xs3 ∧ xs0.length ≤ (1099511627776 : Nat) ∧ (0 : Int) ≤ y0 ∧ y0 < (18446744073709551616 : Int)) (vlet (↑(VTake.owe (M6.val xs0) (m1 + x7.toNat) ((IntKind.i64.wrap (IntKind.i64.wrap (x7 + x4) + (1 : Int))).toNat - x7.toNat) (M6.val xs3 * y0.toNat)) : Int) fun y1 => vlet (M6.fdg xs0.length (M6.val xs0 + (18446744073709551616 : Nat) ^ (m1 + x7.toNat + ((IntKind.i64.wrap (IntKind.i64.wrap (x7 + x4) + (1 : Int))).toNat - x7.toNat)) * VTake.owe (M6.val xs0) (m1 + x7.toNat) ((IntKind.i64.wrap (IntKind.i64.wrap (x7 + x4) + (1 : Int))).toNat - x7.toNat) (M6.val xs3 * y0.toNat) - (18446744073709551616 : Nat) ^ (m1 + x7.toNat) * (M6.val xs3 * y0.toNat))) fun y2 => bcase (y1 == (0 : Int)) (if (0 : Int) ≤ x7 ∧ x7 < (↑m5 : Int) then VLong.L4 y2 m1 m2 xs3 x4 m5 (xs6.set x7.toNat y0) (IntKind.i64.wrap (x7 - (1 : Int))) else none) (VLong.L10 y2 m1 m2 xs3 x4 m5 xs6 x7 y0 (m1 + x7.toNat) ((IntKind.i64.wrap (IntKind.i64.wrap (x7 + x4) + (1 : Int))).toNat - x7.toNat))) else none) else none else none else none) (some [D.own (23 : Nat) IntKind.u64 xs6, D.io (23 : Nat) IntKind.u64 xs0 (0 : Nat) (0 : Nat)]) := (loopAt_J rfl nok 4 _).trans (by kernel_rfl)
theorem L10_eq (xs0 : List Int) (m1 : Nat) (m2 : Nat) (xs3 : List Int) (x4 : Int) (m5 : Nat) (xs6 : List Int) (x7 : Int) (x8 : Int) (m9 : Nat) (m10 : Nat) : L10 xs0 m1 m2 xs3 x4 m5 xs6 x7 x8 m9 m10 = gif (M6.Dig xs0 ∧ m10 = xs3.length + (1 : Nat) ∧ m9 + m10 ≤ xs0.length ∧ M6.Dig xs3 ∧ xs0.length ≤ (1099511627776 : Nat)) (vlet (↑(VGive.car (M6.val xs0) m9 m10 (M6.val xs3)) : Int) fun y3 => vlet (M6.fdg xs0.length (M6.val xs0 + (18446744073709551616 : Nat) ^ m9 * M6.val xs3 - (18446744073709551616 : Nat) ^ (m9 + m10) * VGive.car (M6.val xs0) m9 m10 (M6.val xs3))) fun y4 => bcase (y3 == (1 : Int)) (if (0 : Int) ≤ x7 ∧ x7 < (↑m5 : Int) then VLong.L4 y4 m1 m2 xs3 x4 m5 (xs6.set x7.toNat (IntKind.u64.wrap (x8 - (1 : Int)))) (IntKind.i64.wrap (x7 - (1 : Int))) else none) (VLong.L10 y4 m1 m2 xs3 x4 m5 xs6 x7 (IntKind.u64.wrap (x8 - (1 : Int))) m9 m10)) := (loopAt_J rfl nok 10 _).trans (by kernel_rfl)
-- stuck: 0
end VLong
namespace VLong
noncomputable def sp (x : List Int × Nat × Nat) (b : List Int) : Prop × List D := (M6.Dig x.1 ∧ x.2.1 = 0 ∧ x.2.2 = x.1.length ∧ M6.Dig b ∧ 0 < b.length ∧ b.length ≤ x.1.length ∧ x.1.length ≤ 549755813888 ∧ M6.val x.1 / 18446744073709551616 ^ (x.1.length - b.length) < M6.val b,
  [.own tU64 .u64 (M6.fdg (x.1.length - b.length) (M6.val x.1 / M6.val b)), .io tU64 .u64 (M6.fdg x.1.length (M6.val x.1 % M6.val b)) 0 0])
theorem digit {z : List Int} (hd : M6.Dig z) (k : Nat) : (z.getD k 0).toNat = M6.val z / 18446744073709551616 ^ k % 18446744073709551616 := by
  rw [← M6.val_drop_div hd, M6.val_drop_one]
  have := hd.get k
  omega
/-- A window over nought. -/
theorem win_all {v j n : Nat} (h : v / 18446744073709551616 ^ j < 18446744073709551616 ^ n) : v / 18446744073709551616 ^ j % 18446744073709551616 ^ n = v / 18446744073709551616 ^ j := Nat.mod_eq_of_lt h
theorem minus {v j R X : Nat} (hR : R = v / 18446744073709551616 ^ j) (hX : X ≤ R) : (v - 18446744073709551616 ^ j * X) / 18446744073709551616 ^ j = R - X ∧ 18446744073709551616 ^ j * X ≤ v := by
  have h1 := Nat.mod_add_div v (18446744073709551616 ^ j)
  have h2 : v % 18446744073709551616 ^ j < 18446744073709551616 ^ j := Nat.mod_lt _ (Nat.pow_pos (by omega))
  rw [← hR] at h1
  obtain ⟨D, rfl⟩ := Nat.exists_eq_add_of_le hX
  rw [Nat.mul_add] at h1
  have h3 : v - 18446744073709551616 ^ j * X = v % 18446744073709551616 ^ j + 18446744073709551616 ^ j * D := by omega
  rw [h3, Nat.add_mul_div_left _ _ (Nat.pow_pos (by omega)), Nat.div_eq_of_lt h2]
  omega
theorem plus {v j n R X : Nat} (hR : R = v / 18446744073709551616 ^ j) (hX : R < X) (hX2 : X ≤ 18446744073709551616 ^ n) : (v + 18446744073709551616 ^ (j + n) - 18446744073709551616 ^ j * X) / 18446744073709551616 ^ j % 18446744073709551616 ^ n = R + 18446744073709551616 ^ n - X := by
  have h1 := Nat.mod_add_div v (18446744073709551616 ^ j)
  have h2 : v % 18446744073709551616 ^ j < 18446744073709551616 ^ j := Nat.mod_lt _ (Nat.pow_pos (by omega))
  rw [← hR] at h1
  have h4 : 18446744073709551616 ^ j * (R + 18446744073709551616 ^ n) = 18446744073709551616 ^ j * R + 18446744073709551616 ^ (j + n) := by rw [Nat.mul_add, Nat.pow_add]
  obtain ⟨D, hD⟩ : ∃ D, R + 18446744073709551616 ^ n = X + D := Nat.exists_eq_add_of_le (by omega)
  rw [hD, Nat.mul_add] at h4
  have h3 : v + 18446744073709551616 ^ (j + n) - 18446744073709551616 ^ j * X = v % 18446744073709551616 ^ j + 18446744073709551616 ^ j * D := by omega
  rw [h3, Nat.add_mul_div_left _ _ (Nat.pow_pos (by omega)), Nat.div_eq_of_lt h2, Nat.zero_add, Nat.mod_eq_of_lt (by omega)]
  omega
/-- The trial digit is not below the right one. -/
theorem trial_ge {R V n : Nat} {hi lo d : Int} (hn : 0 < n) (hV : V < 18446744073709551616 ^ n) (hRV : R < 18446744073709551616 * V) (hhi : hi.toNat = R / 18446744073709551616 ^ n) (hlo : lo.toNat = R / 18446744073709551616 ^ (n - 1) % 18446744073709551616) (hd : d.toNat = V / 18446744073709551616 ^ (n - 1)) (h0 : 0 ≤ hi) :
    R / V ≤ (if d ≤ hi then (18446744073709551615 : Int) else (((hi.toNat * 18446744073709551616 + lo.toNat) / d.toNat : Nat) : Int)).toNat ∧ (0 ≤ if d ≤ hi then (18446744073709551615 : Int) else (((hi.toNat * 18446744073709551616 + lo.toNat) / d.toNat : Nat) : Int)) ∧ (if d ≤ hi then (18446744073709551615 : Int) else (((hi.toNat * 18446744073709551616 + lo.toNat) / d.toNat : Nat) : Int)) < 18446744073709551616 := by
  by_cases hc : d ≤ hi
  · rw [if_pos hc]
    refine ⟨?_, by omega, by omega⟩
    have : R / V < 18446744073709551616 := by
      apply Nat.div_lt_of_lt_mul
      rw [Nat.mul_comm]; exact hRV
    show R / V ≤ 18446744073709551615
    omega
  · rw [if_neg hc]
    obtain ⟨k, rfl⟩ : ∃ k, n = k + 1 := ⟨n - 1, by omega⟩
    rw [Nat.add_sub_cancel] at hlo hd
    have e1 : hi.toNat * 18446744073709551616 + lo.toNat = R / 18446744073709551616 ^ k := by
      rw [hhi, hlo, Nat.pow_succ, ← Nat.div_div_eq_div_mul]
      omega
    have hdp : 0 < d.toNat := by omega
    have hlt : hi.toNat < d.toNat := by omega
    refine ⟨?_, Int.natCast_nonneg _, ?_⟩
    · rw [Int.toNat_natCast, e1, Nat.div_div_eq_div_mul]
      apply Nat.div_le_div_left
      · rw [hd]; exact Nat.mul_div_le _ _
      · exact Nat.mul_pos (Nat.pow_pos (by omega)) hdp
    · have hlo2 : lo.toNat < 18446744073709551616 := by rw [hlo]; exact Nat.mod_lt _ (by omega)
      have : (hi.toNat * 18446744073709551616 + lo.toNat) / d.toNat < 18446744073709551616 := by
        apply Nat.div_lt_of_lt_mul
        have : (hi.toNat + 1) * 18446744073709551616 ≤ d.toNat * 18446744073709551616 := Nat.mul_le_mul_right _ hlt
        omega
      exact Int.ofNat_lt.2 this
theorem L10l {u b qs : List Int} {L j R q : Nat} (hL : L ≤ 549755813888) (hu : u.length = L) (hd : M6.Dig u) (hb : M6.Dig b) (hj : j + (b.length + 1) ≤ L) (hR : R = M6.val u / 18446744073709551616 ^ j) (hRB : R < 18446744073709551616 ^ (b.length + 1)) (hV : 0 < M6.val b) (hq : q = R / M6.val b) (hqs : qs.length = L - b.length) : ∀ (k w : Nat), w = q + (k + 1) → w < 18446744073709551616 →
    L10 (M6.fdg L (M6.val u + 18446744073709551616 ^ (j + (b.length + 1)) - 18446744073709551616 ^ j * (M6.val b * w))) 0 L b b.length (L - b.length) qs j w j (b.length + 1) = L4 (M6.fdg L (M6.val u - 18446744073709551616 ^ j * (M6.val b * q))) 0 L b b.length (L - b.length) (qs.set j (q : Int)) ((j : Int) - 1) := by
  have hVB := M6.val_lt hb
  have hqR : M6.val b * q ≤ R := by rw [hq]; exact Nat.mul_div_le _ _
  have hqR2 : R < M6.val b * (q + 1) := by rw [hq]; exact Nat.lt_mul_div_succ _ hV
  have hvu := M6.val_lt hd
  rw [hu] at hvu
  intro k
  induction k with
  | zero =>
    intro w hw hwB
    subst hw
    have hX2 : M6.val b * (q + (0 + 1)) ≤ 18446744073709551616 ^ (b.length + 1) := by
      rw [Nat.pow_succ]; exact Nat.mul_le_mul (by omega) (by omega)
    have hpl := plus (n := b.length + 1) hR (X := M6.val b * (q + (0 + 1))) hqR2 hX2
    have hbd : M6.val u + 18446744073709551616 ^ (j + (b.length + 1)) - 18446744073709551616 ^ j * (M6.val b * (q + (0 + 1))) < 18446744073709551616 ^ L := by
      have := VTake.bound hvu hj (X := M6.val b * (q + (0 + 1))) (by rw [Nat.pow_succ]; exact Nat.mul_lt_mul'' hVB (by omega))
      unfold VTake.owe at this
      rw [win_all (by rw [← hR]; exact hRB), ← hR, if_pos hqR2, Nat.mul_one] at this
      exact this
    have hcar : VGive.car (M6.val u + 18446744073709551616 ^ (j + (b.length + 1)) - 18446744073709551616 ^ j * (M6.val b * (q + (0 + 1)))) j (b.length + 1) (M6.val b) = 1 := by
      unfold VGive.car
      rw [hpl]
      have e : R + 18446744073709551616 ^ (b.length + 1) - M6.val b * (q + (0 + 1)) + M6.val b = 18446744073709551616 ^ (b.length + 1) * 1 + (R - M6.val b * q) := by
        rw [Nat.mul_add] at hX2 ⊢
        omega
      have hlt : R - M6.val b * q < 18446744073709551616 ^ (b.length + 1) := by omega
      rw [e, Nat.mul_add_div (Nat.pow_pos (by omega)), Nat.div_eq_of_lt hlt]
    have w1 : IntKind.u64.wrap (((q + (0 + 1) : Nat) : Int) - 1) = (q : Int) := by rw [wrap_u64 (by omega) (by omega)]; omega
    have w2 : IntKind.i64.wrap ((j : Int) - 1) = (j : Int) - 1 := by rw [wrap_i64 (by omega) (by omega)]
    rw [L10_eq, vlet_eq, vlet_eq, M6.fdg_len hbd, M6.fdg_val, hcar, gP ⟨M6.fdg_dig, by trivial, hj, hb, by omega⟩, bE_pos (by rfl), if_pos (by omega), w1, w2, Int.toNat_natCast]
    congr 1
    congr 1
    have e1 : 18446744073709551616 ^ j * (M6.val b * (q + (0 + 1))) = 18446744073709551616 ^ j * (M6.val b * q) + 18446744073709551616 ^ j * M6.val b := by rw [Nat.mul_add, Nat.mul_add]; simp
    have e2 := (minus hR hqR).2
    have e3 : 18446744073709551616 ^ j * M6.val b ≤ 18446744073709551616 ^ (j + (b.length + 1)) := by
      rw [Nat.pow_add, Nat.pow_succ]
      exact Nat.mul_le_mul_left _ (by omega)
    omega
  | succ k ih =>
    intro w hw hwB
    subst hw
    have hlt1 : R < M6.val b * (q + (k + 1)) := Nat.lt_of_lt_of_le hqR2 (Nat.mul_le_mul_left _ (by omega))
    have hstep : M6.val b * (q + (k + 1 + 1)) = M6.val b * (q + (k + 1)) + M6.val b := by rw [← Nat.add_assoc q, Nat.mul_succ]
    have hX2 : M6.val b * (q + (k + 1 + 1)) ≤ 18446744073709551616 ^ (b.length + 1) := by
      rw [Nat.pow_succ]; exact Nat.mul_le_mul (by omega) (by omega)
    have hpl := plus (n := b.length + 1) hR (X := M6.val b * (q + (k + 1 + 1))) (by omega) hX2
    have hbd : M6.val u + 18446744073709551616 ^ (j + (b.length + 1)) - 18446744073709551616 ^ j * (M6.val b * (q + (k + 1 + 1))) < 18446744073709551616 ^ L := by
      have := VTake.bound hvu hj (X := M6.val b * (q + (k + 1 + 1))) (by rw [Nat.pow_succ]; exact Nat.mul_lt_mul'' hVB (by omega))
      unfold VTake.owe at this
      rw [win_all (by rw [← hR]; exact hRB), ← hR, if_pos (by omega), Nat.mul_one] at this
      exact this
    have hcar : VGive.car (M6.val u + 18446744073709551616 ^ (j + (b.length + 1)) - 18446744073709551616 ^ j * (M6.val b * (q + (k + 1 + 1)))) j (b.length + 1) (M6.val b) = 0 := by
      unfold VGive.car
      rw [hpl]
      exact Nat.div_eq_of_lt (by omega)
    have w1 : IntKind.u64.wrap (((q + (k + 1 + 1) : Nat) : Int) - 1) = ((q + (k + 1) : Nat) : Int) := by rw [wrap_u64 (by omega) (by omega)]; omega
    rw [L10_eq, vlet_eq, vlet_eq, M6.fdg_len hbd, M6.fdg_val, hcar, gP ⟨M6.fdg_dig, by trivial, hj, hb, by omega⟩, bE_neg (by decide), w1]
    have e4 : M6.val u + 18446744073709551616 ^ (j + (b.length + 1)) - 18446744073709551616 ^ j * (M6.val b * (q + (k + 1 + 1))) + 18446744073709551616 ^ j * M6.val b - 18446744073709551616 ^ (j + (b.length + 1)) * 0 = M6.val u + 18446744073709551616 ^ (j + (b.length + 1)) - 18446744073709551616 ^ j * (M6.val b * (q + (k + 1))) := by
      have e1 : 18446744073709551616 ^ j * (M6.val b * (q + (k + 1 + 1))) = 18446744073709551616 ^ j * (M6.val b * (q + (k + 1))) + 18446744073709551616 ^ j * M6.val b := by rw [hstep, Nat.mul_add]
      have e3 : 18446744073709551616 ^ j * (M6.val b * (q + (k + 1 + 1))) ≤ 18446744073709551616 ^ (j + (b.length + 1)) := by
        rw [Nat.pow_add]
        exact Nat.mul_le_mul_left _ hX2
      omega
    rw [e4]
    exact ih _ rfl (by omega)
theorem vlet_of {α R : Type} {x : α} {k : α → Option R} {r : Option R} (Q : α → Prop) (hx : Q x) (hk : ∀ w, Q w → k w = r) : vlet x k = r := hk x hx
theorem L4l {b : List Int} {L U0 : Nat} (hL : L ≤ 549755813888) (hb : M6.Dig b) (hn : 0 < b.length) (hbL : b.length ≤ L) : ∀ (t : Nat) (u qs : List Int), t ≤ L - b.length → u.length = L → M6.Dig u → qs.length = L - b.length → M6.Dig qs → M6.val u / 18446744073709551616 ^ t < M6.val b → U0 = M6.val u + M6.val b * (18446744073709551616 ^ t * M6.val (qs.drop t)) →
    L4 u 0 L b b.length (L - b.length) qs ((t : Int) - 1) = some [.own tU64 .u64 (M6.fdg (L - b.length) (U0 / M6.val b)), .io tU64 .u64 (M6.fdg L (U0 % M6.val b)) 0 0] := by
  have hVB := M6.val_lt hb
  intro t
  induction t with
  | zero =>
    intro u qs _ hu hd hq hdq hlt hU
    rw [Nat.pow_zero, Nat.div_one] at hlt
    rw [Nat.pow_zero, Nat.one_mul, List.drop_zero] at hU
    rw [L4_eq, bD_neg (by omega)]
    have e1 : U0 / M6.val b = M6.val qs := by rw [hU, Nat.add_mul_div_left _ _ (by omega), Nat.div_eq_of_lt hlt, Nat.zero_add]
    have e2 : U0 % M6.val b = M6.val u := by rw [hU, Nat.add_mul_mod_self_left, Nat.mod_eq_of_lt hlt]
    rw [M6.fdg_of hd hu e2.symm, M6.fdg_of hdq hq e1.symm]
  | succ j ih =>
    intro u qs hj hu hd hq hdq hlt hU
    obtain ⟨R, hR⟩ : ∃ R, R = M6.val u / 18446744073709551616 ^ j := ⟨_, rfl⟩
    have hV : 0 < M6.val b := Nat.lt_of_le_of_lt (Nat.zero_le _) hlt
    have hRV : R < 18446744073709551616 * M6.val b := by
      rw [Nat.pow_succ, ← Nat.div_div_eq_div_mul, ← hR] at hlt
      rw [Nat.mul_comm]
      exact (Nat.div_lt_iff_lt_mul (by omega)).1 hlt
    have hRB : R < 18446744073709551616 ^ (b.length + 1) := by rw [Nat.pow_succ]; omega
    obtain ⟨q, hqd⟩ : ∃ q, q = R / M6.val b := ⟨_, rfl⟩
    have hqR : M6.val b * q ≤ R := by rw [hqd]; exact Nat.mul_div_le _ _
    have hqB : q < 18446744073709551616 := by
      rw [hqd]; apply Nat.div_lt_of_lt_mul; rw [Nat.mul_comm]; exact hRV
    have hvu := M6.val_lt hd
    rw [hu] at hvu
    -- what comes next
    have nxt : L4 (M6.fdg L (M6.val u - 18446744073709551616 ^ j * (M6.val b * q))) 0 L b b.length (L - b.length) (qs.set j (q : Int)) ((j : Int) - 1) = some [.own tU64 .u64 (M6.fdg (L - b.length) (U0 / M6.val b)), .io tU64 .u64 (M6.fdg L (U0 % M6.val b)) 0 0] := by
      obtain ⟨m1, m2⟩ := minus hR hqR
      refine ih _ _ (by omega) (M6.fdg_len (by omega)) M6.fdg_dig (by simp [hq]) (M6.dig_set hdq ⟨by omega, by omega⟩) ?_ ?_
      · rw [M6.fdg_val, m1]
        have h1 := Nat.mod_add_div R (M6.val b)
        have h2 := Nat.mod_lt R hV
        rw [← hqd] at h1
        omega
      · rw [M6.fdg_val, M6.val_drop_set (by omega), Int.toNat_natCast, hU, Nat.pow_succ]
        have e1 : M6.val b * (18446744073709551616 ^ j * (q + 18446744073709551616 * M6.val (qs.drop (j + 1)))) = 18446744073709551616 ^ j * (M6.val b * q) + M6.val b * (18446744073709551616 ^ j * 18446744073709551616 * M6.val (qs.drop (j + 1))) := by
          rw [Nat.mul_add, Nat.mul_add, Nat.mul_left_comm, Nat.mul_assoc (18446744073709551616 ^ j)]
        rw [e1]
        omega
    have hx : ((j + 1 : Nat) : Int) - 1 = (j : Int) := by omega
    have w1 : IntKind.i64.wrap ((j : Int) + (b.length : Int)) = ((j + b.length : Nat) : Int) := by rw [wrap_i64 (by omega) (by omega)]; omega
    have w2 : IntKind.i64.wrap (((j + b.length : Nat) : Int) - 1) = ((j + b.length - 1 : Nat) : Int) := by rw [wrap_i64 (by omega) (by omega)]; omega
    have w3 : IntKind.i64.wrap ((b.length : Int) - 1) = ((b.length - 1 : Nat) : Int) := by rw [wrap_i64 (by omega) (by omega)]; omega
    have w4 : IntKind.i64.wrap (((j + b.length : Nat) : Int) + 1) = ((j + b.length + 1 : Nat) : Int) := by rw [wrap_i64 (by omega) (by omega)]; omega
    have w5 : IntKind.i64.wrap ((j : Int) - 1) = (j : Int) - 1 := by rw [wrap_i64 (by omega) (by omega)]
    have e5 : j + b.length + 1 - j = b.length + 1 := by omega
    have g1 := hd.get (j + b.length)
    have g2 := hd.get (j + b.length - 1)
    have g3 := hb.get (b.length - 1)
    have hhi : (u.getD (j + b.length) 0).toNat = R / 18446744073709551616 ^ b.length := by
      rw [digit hd, Nat.pow_add, ← Nat.div_div_eq_div_mul, ← hR, Nat.mod_eq_of_lt]
      apply Nat.div_lt_of_lt_mul
      rw [Nat.pow_succ] at hRB
      exact hRB
    have hlo : (u.getD (j + b.length - 1) 0).toNat = R / 18446744073709551616 ^ (b.length - 1) % 18446744073709551616 := by
      rw [digit hd, show j + b.length - 1 = j + (b.length - 1) from by omega, Nat.pow_add, ← Nat.div_div_eq_div_mul, ← hR]
    have hdd : (b.getD (b.length - 1) 0).toNat = M6.val b / 18446744073709551616 ^ (b.length - 1) := by
      rw [digit hb, Nat.mod_eq_of_lt]
      apply Nat.div_lt_of_lt_mul
      rw [← Nat.pow_succ, show (b.length - 1).succ = b.length from by omega]
      exact hVB
    have ht := trial_ge hn hVB hRV hhi hlo hdd g1.1
    rw [hx, L4_eq, bD_pos (by omega), w1, w2, w3, w4, if_pos (by omega), if_pos (by omega), if_pos (by omega), Int.toNat_natCast, Int.toNat_natCast, Int.toNat_natCast, Nat.zero_add, Nat.zero_add, gP ⟨g1.1, g2.1, g2.2, g3.2⟩]
    refine vlet_of (fun w : Int => R / M6.val b ≤ w.toNat ∧ 0 ≤ w ∧ w < 18446744073709551616) ht ?_
    rintro w ⟨hge, h0, h1⟩
    obtain ⟨w, rfl⟩ := Int.eq_ofNat_of_zero_le h0
    rw [Int.toNat_natCast] at hge
    rw [if_pos (by omega)]
    simp only [Int.toNat_natCast, Nat.zero_add, e5]
    rw [hu, gP ⟨hd, by trivial, by omega, hb, by omega, h0, h1⟩, vlet_eq, vlet_eq]
    by_cases hc : M6.val b * w ≤ R
    · have ho : VTake.owe (M6.val u) j (b.length + 1) (M6.val b * w) = 0 := by
        unfold VTake.owe
        rw [win_all (by rw [← hR]; exact hRB), ← hR, if_neg (by omega)]
      have hwq : w = q := by
        have : w ≤ R / M6.val b := by rw [Nat.le_div_iff_mul_le hV, Nat.mul_comm]; exact hc
        omega
      subst hwq
      rw [ho, bE_pos (by rfl), if_pos (by omega), Nat.mul_zero, Nat.add_zero, w5]
      exact nxt
    · have ho : VTake.owe (M6.val u) j (b.length + 1) (M6.val b * w) = 1 := by
        unfold VTake.owe
        rw [win_all (by rw [← hR]; exact hRB), ← hR, if_pos (by omega)]
      have hwq : q < w := by
        rcases Nat.lt_or_ge q w with h | h
        · exact h
        · exact absurd (Nat.le_trans (Nat.mul_le_mul_left _ h) hqR) hc
      rw [ho, bE_neg (by decide), Nat.mul_one]
      rw [L10l hL hu hd hb (by omega) hR hRB hV hqd hq (w - q - 1) w (by omega) (by omega)]
      exact nxt
theorem spec (x : List Int × Nat × Nat) (b : List Int) (h : (sp x b).1) : evalFn E Tryz.f232 cod [(pIO tU64 .u64).put x, (pI .u64).put b] = some (sp x b).2 ∧ ∃ rs ns', (sp x b).2 = rs ++ [.io tU64 .u64 ns' 0 0] ∧ ns'.length = x.1.length := by
  obtain ⟨xl, xo, xn⟩ := x
  obtain ⟨hd, ho, hn, hb, h0, hbl, hL, hlt⟩ := h
  simp only at hd ho hn hbl hL hlt
  subst ho; subst hn
  refine ⟨(start xl 0 xl.length b).trans ?_, [_], _, rfl, M6.fdg_len ?_⟩
  · have w1 : IntKind.i64.wrap ((xl.length : Int) - (b.length : Int)) = ((xl.length - b.length : Nat) : Int) := by rw [wrap_i64 (by omega) (by omega)]; omega
    have w2 : IntKind.i64.wrap (((xl.length - b.length : Nat) : Int) - 1) = ((xl.length - b.length : Nat) : Int) - 1 := by rw [wrap_i64 (by omega) (by omega)]
    rw [w1, w2, if_pos (by omega), Int.toNat_natCast]
    refine L4l hL hb h0 hbl (xl.length - b.length) xl _ (Nat.le_refl _) rfl hd (by simp) (M6.dig_replicate _) hlt ?_
    rw [List.drop_of_length_le (by simp)]
    simp [M6.val]
  · show _ < 18446744073709551616 ^ xl.length
    exact Nat.lt_of_le_of_lt (Nat.mod_le _ _) (M6.val_lt hd)

noncomputable def orc : Orc := orc2 (pIO tU64 .u64) (pI .u64) sp
theorem fnok : FnOkIO Tryz.prog E 232 Tryz.f232 cod := fnOkIO ty_ok mixed (callsOkIO_of _ _ rfl rfl (ios_cons VTake.ok (ios_cons VGive.ok ios_nil)) (orcs_cons VTrial.ok orcs_nil) (ext_ok)) Tryz.func232 rfl rfl rfl rfl rfl
theorem ok : OrcIO Tryz.prog base.glob 232 orc := fnok.ok2 rfl spec
end VLong
end Go.Proofs.YtknafopmgaolmaaGreatDoor.W

/- gnomon/natdiv.QuoRem -/
namespace Go.Proofs.YtknafopmgaolmaaGreatDoor.W
open Go Go.Proofs.YtknafopmgaolmaaGreatDoor.AI Go.Proofs.YtknafopmgaolmaaGreatDoor.M
namespace QuoRem
noncomputable def E : Env := { ({ base with C := callsIO [(232, VLong.orc)] (callsOf [(202, NForm.orc), (162, NCmp.orc), (228, NNorm.orc), (229, NDivWord.orc), (154, NWord.orc), (230, Lz64.orc), (231, VShifted.orc), (152, NShr.orc)]), ioF := ioOf [(232, VLong.orc)] }) with nt := 98, own := [37, 49, 55, 68, 76, 88, 93], keep := fun k => (tlook [] k).getD [], cut := tlook [(3, [0, 1])] }
noncomputable def cod : Code := (Go.Proofs.Tryz.f195.body).getD .skip
theorem nok : namesOk E cod = true := by kernel_rfl
noncomputable def J3 (xs0 : List Int) (xs1 : List Int) : Option (List D) := ctO E Go.Proofs.Tryz.f195 cod 3 [(A.v (V.one (L.s (S.ints IntKind.u64 xs0))), none), (A.v (V.one (L.s (S.ints IntKind.u64 xs1))), none)]
theorem start (a : List Int) (b : List Int) : evalFn E Go.Proofs.Tryz.f195 cod [D.s (S.ints IntKind.u64 a), D.s (S.ints IntKind.u64 b)] = gif (a.length ≤ (1099511627776 : Nat)) (bcase (!NForm.formB a) (some [D.s (S.sc (Value.slice none (0 : Nat) (0 : Nat))), D.s (S.sc (Value.slice none (0 : Nat) (0 : Nat))), D.s (S.sc (Value.int IntKind.i64 (2 : Int)))]) (gif (b.length ≤ (1099511627776 : Nat)) (bcase (!NForm.formB b) (some [D.s (S.sc (Value.slice none (0 : Nat) (0 : Nat))), D.s (S.sc (Value.slice none (0 : Nat) (0 : Nat))), D.s (S.sc (Value.int IntKind.i64 (2 : Int)))]) (QuoRem.J3 a b)))) := (evalFn_J rfl nok _).trans (by kernel_rfl)
theorem J3_eq (xs0 : List Int) (xs1 : List Int) : J3 xs0 xs1 = bcase ((↑xs1.length : Int) == (0 : Int)) (some [D.s (S.sc (Value.slice none (0 : Nat) (0 : Nat))), D.s (S.sc (Value.slice none (0 : Nat) (0 : Nat))), D.s (S.sc (Value.int IntKind.i64 (4 : Int)))]) (gif (M6.Dig xs0 ∧ M6.Dig xs1 ∧ xs0.length ≤ (1099511627776 : Nat) ∧ xs1.length ≤ (1099511627776 : Nat)) (bcase (decide (cmpN (M6.val xs0) (M6.val xs1) < (0 : Int))) (gif (M6.Dig xs0 ∧ xs0.length ≤ (1099511627776 : Nat)) (vlet (bif NTold.okN (M6.val xs0) then M6.dg (M6.val xs0) else []) fun y0 => some [D.s (S.sc (Value.slice none (0 : Nat) (0 : Nat))), D.s (S.ints IntKind.u64 y0), D.s (S.sc (Value.int IntKind.i64 (0 : Int)))])) (bcase ((↑xs1.length : Int) == (1 : Int)) (if (0 : Int) ≤ (0 : Int) ∧ (0 : Int) < (↑xs1.length : Int) then gif (M6.Nrm xs0 ∧ xs0.length ≤ (8192 : Nat) ∧ (0 : Int) < xs1.getD (0 : Nat) (0 : Int) ∧ xs1.getD (0 : Nat) (0 : Int) < (18446744073709551616 : Int)) (vlet (M6.dg (M6.val xs0 / (xs1.getD (0 : Nat) (0 : Int)).toNat)) fun y2 => vlet (↑(M6.val xs0 % (xs1.getD (0 : Nat) (0 : Int)).toNat) : Int) fun y3 => gif ((0 : Int) ≤ y3 ∧ y3 < (18446744073709551616 : Int)) (some [D.s (S.ints IntKind.u64 y2), D.s (S.ints IntKind.u64 (M6.dg y3.toNat)), D.s (S.sc (Value.int IntKind.i64 (0 : Int)))])) else none) (if (0 : Int) ≤ IntKind.i64.wrap ((↑xs1.length : Int) - (1 : Int)) ∧ IntKind.i64.wrap ((↑xs1.length : Int) - (1 : Int)) < (↑xs1.length : Int) then gif ((0 : Int) ≤ xs1.getD (IntKind.i64.wrap ((↑xs1.length : Int) - (1 : Int))).toNat (0 : Int) ∧ xs1.getD (IntKind.i64.wrap ((↑xs1.length : Int) - (1 : Int))).toNat (0 : Int) < (18446744073709551616 : Int)) (vlet ((64 : Int) - (↑(bl (xs1.getD (IntKind.i64.wrap ((↑xs1.length : Int) - (1 : Int))).toNat (0 : Int)).toNat) : Int)) fun y4 => gif (M6.Dig xs0 ∧ (0 : Int) ≤ y4 ∧ y4 < (64 : Int) ∧ (0 : Int) ≤ IntKind.i64.wrap ((↑xs0.length : Int) + (1 : Int)) ∧ xs0.length ≤ (IntKind.i64.wrap ((↑xs0.length : Int) + (1 : Int))).toNat ∧ IntKind.i64.wrap ((↑xs0.length : Int) + (1 : Int)) ≤ (549755813888 : Int) ∧ M6.val xs0 * (2 : Nat) ^ y4.toNat < (18446744073709551616 : Nat) ^ (IntKind.i64.wrap ((↑xs0.length : Int) + (1 : Int))).toNat) (vlet (M6.fdg (IntKind.i64.wrap ((↑xs0.length : Int) + (1 : Int))).toNat (M6.val xs0 * (2 : Nat) ^ y4.toNat)) fun y5 => gif (M6.Dig xs1 ∧ (0 : Int) ≤ y4 ∧ y4 < (64 : Int) ∧ (0 : Int) ≤ (↑xs1.length : Int) ∧ xs1.length ≤ (↑xs1.length : Int).toNat ∧ (↑xs1.length : Int) ≤ (549755813888 : Int) ∧ M6.val xs1 * (2 : Nat) ^ y4.toNat < (18446744073709551616 : Nat) ^ (↑xs1.length : Int).toNat) (vlet (M6.fdg (↑xs1.length : Int).toNat (M6.val xs1 * (2 : Nat) ^ y4.toNat)) fun y6 => gif (M6.Dig y5 ∧ (0 : Nat) = (0 : Nat) ∧ y5.length = y5.length ∧ M6.Dig y6 ∧ (0 : Nat) < y6.length ∧ y6.length ≤ y5.length ∧ y5.length ≤ (549755813888 : Nat) ∧ M6.val y5 / (18446744073709551616 : Nat) ^ (y5.length - y6.length) < M6.val y6) (vlet (M6.fdg (y5.length - y6.length) (M6.val y5 / M6.val y6)) fun y7 => vlet (M6.fdg y5.length (M6.val y5 % M6.val y6)) fun y8 => if (0 : Int) ≤ (0 : Int) ∧ (0 : Int) ≤ (↑y6.length : Int) ∧ (↑y6.length : Int) ≤ (↑y5.length : Int) then gif (M6.Dig (List.take ((↑y6.length : Int).toNat - (0 : Nat)) (List.drop (0 : Nat) y8)) ∧ (List.take ((↑y6.length : Int).toNat - (0 : Nat)) (List.drop (0 : Nat) y8)).length ≤ (1099511627776 : Nat)) (vlet (bif NTold.okN (M6.val (List.take ((↑y6.length : Int).toNat - (0 : Nat)) (List.drop (0 : Nat) y8))) then M6.dg (M6.val (List.take ((↑y6.length : Int).toNat - (0 : Nat)) (List.drop (0 : Nat) y8))) else []) fun y9 => gif (M6.Nrm y9 ∧ y9.length ≤ (8192 : Nat) ∧ (0 : Int) ≤ y4 ∧ y4 < (4611686018427387904 : Int)) (vlet (M6.dg (M6.val y9 / (2 : Nat) ^ y4.toNat)) fun y11 => gif (M6.Dig y7 ∧ y7.length ≤ (1099511627776 : Nat)) (vlet (bif NTold.okN (M6.val y7) then M6.dg (M6.val y7) else []) fun y12 => some [D.s (S.ints IntKind.u64 y12), D.s (S.ints IntKind.u64 y11), D.s (S.sc (Value.int IntKind.i64 (0 : Int)))]))) else none)))) else none)))) := (cutAt_J rfl nok 3 _).trans (by kernel_rfl)
-- stuck: 0
end QuoRem
namespace QuoRem
noncomputable def sp (a b : List Int) : Prop × List D := (M6.Nrm a ∧ a.length ≤ 8192 ∧ M6.Nrm b ∧ 1 ≤ b.length ∧ b.length ≤ 8192, [.s (.ints .u64 (M6.dg (M6.val a / M6.val b))), .s (.ints .u64 (M6.dg (M6.val a % M6.val b))), .s (.sc (.int .i64 0))])
theorem okN_of {n k : Nat} (h : n < 18446744073709551616 ^ k) (hk : k ≤ 8192) : NTold.okN n = true := decide_eq_true (by have := M6.len_dg_le h; omega)
theorem spec (a b : List Int) (h : (sp a b).1) : ∃ rs, evalFn E Tryz.f195 cod [(pI .u64).put a, (pI .u64).put b] = some rs ∧ RsLe rs (sp a b).2 := by
  obtain ⟨ha, hl, hb, h1, hbl⟩ := h
  have e := start a b
  have g := hb.dig.get 0
  have hz : M6.val b ≠ 0 := fun h => by have := (M6.len_zero hb).2 h; omega
  rw [gP (by omega), NForm.form_of ha hl, Bool.not_true, bF, gP (by omega), NForm.form_of hb (by omega), Bool.not_true, bF, J3_eq, bE_neg (by omega), gP ⟨ha.dig, hb.dig, by omega, by omega⟩] at e
  unfold sp
  simp only
  by_cases hc : M6.val a < M6.val b
  · have hok : NTold.okN (M6.val a) = true := okN_of (M6.val_lt ha.dig) hl
    rw [bD_pos (by unfold cmpN; rw [if_pos hc]; omega), gP ⟨ha.dig, by omega⟩, vlet_eq, hok] at e
    rw [Nat.div_eq_of_lt hc, Nat.mod_eq_of_lt hc, M6.dg_zero]
    exact ⟨_, e, .cons (RLe.nil _) (RsLe.refl _)⟩
  have hm := Nat.mod_lt (M6.val a) (show 0 < M6.val b by omega)
  rw [bD_neg (by unfold cmpN; rw [if_neg hc]; split <;> omega)] at e
  by_cases hone : b.length = 1
  · have hv : M6.val b = (b.getD 0 0).toNat := by
      have := M6.val_take_one (a := b) 0
      rw [M6.val_take_ge (by omega)] at this
      simpa [M6.val] using this
    rw [bE_pos (by omega), if_pos ⟨by omega, by omega⟩, gP ⟨ha, by omega, by omega, by omega⟩, ← hv, vlet_eq, vlet_eq, gP ⟨Int.natCast_nonneg _, by generalize M6.val a % M6.val b = m at *; omega⟩, Int.toNat_natCast] at e
    exact ⟨_, e, RsLe.refl _⟩
  · have w1 : IntKind.i64.wrap ((b.length : Int) - 1) = ((b.length - 1 : Nat) : Int) := by rw [wrap_i64 (by omega) (by omega)]; omega
    have w2 : IntKind.i64.wrap ((a.length : Int) + 1) = ((a.length + 1 : Nat) : Int) := by rw [wrap_i64 (by omega) (by omega)]; omega
    have gt := hb.dig.get (b.length - 1)
    have htop : b.getD (b.length - 1) 0 ≠ 0 := by
      have := M6.getLast_take (a := b) (n := b.length - 1) (by omega)
      rw [show b.length - 1 + 1 = b.length from by omega, List.take_length] at this
      exact hb.top this
    have hvb := M6.val_take_one (a := b) (b.length - 1)
    rw [show b.length - 1 + 1 = b.length from by omega, List.take_length] at hvb
    have hvl := M6.val_take_lt hb.dig (b.length - 1)
    obtain ⟨x, hx⟩ := Int.eq_ofNat_of_zero_le gt.1
    have hx0 : x ≠ 0 := by omega
    have hbx : bl x ≤ 64 := bl_le.2 (by omega)
    have hbp := bl_pos hx0
    have hxb := lt_bl x
    obtain ⟨s, hs⟩ : ∃ s : Nat, s = 64 - bl x := ⟨_, rfl⟩
    have ws : (64 - ((bl x : Nat) : Int)) = (s : Int) := by omega
    have hAv := M6.val_lt ha.dig
    have hBv := M6.val_lt hb.dig
    have hps : 2 ^ s < 18446744073709551616 := by
      have : 2 ^ s < 2 ^ 64 := Nat.pow_lt_pow_right (by omega) (by omega)
      omega
    have hp0 : 0 < 2 ^ s := Nat.pow_pos (by omega)
    have hA2 : M6.val a * 2 ^ s < 18446744073709551616 ^ (a.length + 1) := by rw [Nat.pow_succ]; exact Nat.mul_lt_mul'' hAv hps
    have hB2 : M6.val b * 2 ^ s < 18446744073709551616 ^ b.length := by
      have h2 : (x + 1) * 2 ^ s ≤ 2 ^ bl x * 2 ^ s := Nat.mul_le_mul_right _ hxb
      rw [← Nat.pow_add, show bl x + s = 64 from by omega] at h2
      have h3 : M6.val b + 1 ≤ 18446744073709551616 ^ (b.length - 1) * (x + 1) := by
        rw [hvb, hx, Int.toNat_natCast, Nat.mul_add]
        omega
      have h4 : (M6.val b + 1) * 2 ^ s ≤ 18446744073709551616 ^ (b.length - 1) * (x + 1) * 2 ^ s := Nat.mul_le_mul_right _ h3
      have h5 : 18446744073709551616 ^ (b.length - 1) * ((x + 1) * 2 ^ s) ≤ 18446744073709551616 ^ (b.length - 1) * 2 ^ 64 := Nat.mul_le_mul_left _ h2
      have h6 : 18446744073709551616 ^ (b.length - 1) * 2 ^ 64 = 18446744073709551616 ^ b.length := by
        conv => rhs; rw [show b.length = (b.length - 1) + 1 from by omega, Nat.pow_succ]
      rw [h6] at h5
      rw [Nat.mul_assoc] at h4
      rw [Nat.add_mul] at h4
      omega
    have hlab : b.length ≤ a.length := by
      rcases Nat.lt_or_ge a.length b.length with h | h
      · exact absurd (M6.nrm_len_lt ha.dig hb h) hc
      · exact h
    have hge : 18446744073709551616 ^ (b.length - 1) ≤ M6.val b := by
      rw [hvb, hx, Int.toNat_natCast]
      have : 18446744073709551616 ^ (b.length - 1) * 1 ≤ 18446744073709551616 ^ (b.length - 1) * x := Nat.mul_le_mul_left _ (by omega)
      omega
    have hhead : M6.val a * 2 ^ s / 18446744073709551616 ^ (a.length + 1 - b.length) < M6.val b * 2 ^ s := by
      apply Nat.div_lt_of_lt_mul
      have h1 : 18446744073709551616 ^ (a.length + 1 - b.length) * 18446744073709551616 ^ (b.length - 1) ≤ 18446744073709551616 ^ (a.length + 1 - b.length) * M6.val b := Nat.mul_le_mul_left _ hge
      rw [← Nat.pow_add, show a.length + 1 - b.length + (b.length - 1) = a.length from by omega] at h1
      rw [← Nat.mul_assoc]
      exact Nat.mul_lt_mul_of_pos_right (Nat.lt_of_lt_of_le hAv h1) hp0
    have hQ : M6.val a * 2 ^ s / (M6.val b * 2 ^ s) = M6.val a / M6.val b := Nat.mul_div_mul_right _ _ hp0
    have hR : M6.val a * 2 ^ s % (M6.val b * 2 ^ s) = M6.val a % M6.val b * 2 ^ s := Nat.mul_mod_mul_right _ _ _
    have hRl : M6.val a % M6.val b * 2 ^ s < 18446744073709551616 ^ b.length := Nat.lt_trans (Nat.mul_lt_mul_of_pos_right hm hp0) hB2
    have hRl2 : M6.val a % M6.val b * 2 ^ s < 18446744073709551616 ^ (a.length + 1) := Nat.lt_of_lt_of_le hRl (M6.pow_le (by omega))
    have hQl : M6.val a / M6.val b < 18446744073709551616 ^ a.length := Nat.lt_of_le_of_lt (Nat.div_le_self _ _) hAv
    have hQl2 : M6.val a / M6.val b < 18446744073709551616 ^ (a.length + 1 - b.length) := by
      apply Nat.div_lt_of_lt_mul
      have h1 : 18446744073709551616 ^ (b.length - 1) * 18446744073709551616 ^ (a.length + 1 - b.length) ≤ M6.val b * 18446744073709551616 ^ (a.length + 1 - b.length) := Nat.mul_le_mul_right _ hge
      rw [← Nat.pow_add, show b.length - 1 + (a.length + 1 - b.length) = a.length from by omega] at h1
      omega
    have htake : M6.val ((M6.fdg (a.length + 1) (M6.val a % M6.val b * 2 ^ s)).take b.length) = M6.val a % M6.val b * 2 ^ s := by
      rw [M6.val_take_mod M6.fdg_dig, M6.fdg_val, Nat.mod_eq_of_lt hRl]
    rw [bE_neg (by omega), w1, w2, if_pos (by omega), Int.toNat_natCast, Int.toNat_natCast, Int.toNat_natCast, gP gt, hx, Int.toNat_natCast, ws, vlet_eq, Int.toNat_natCast,
      gP ⟨ha.dig, by omega, by omega, by omega, by omega, by omega, hA2⟩, vlet_eq, gP ⟨hb.dig, by omega, by omega, by omega, Nat.le_refl _, by omega, hB2⟩, vlet_eq,
      M6.fdg_len hA2, M6.fdg_len hB2, M6.fdg_val, M6.fdg_val, Int.toNat_natCast, gP ⟨M6.fdg_dig, rfl, rfl, M6.fdg_dig, by omega, by omega, by omega, hhead⟩, vlet_eq, vlet_eq, hQ, hR,
      if_pos (by omega), List.drop_zero, Nat.sub_zero, htake, gP ⟨M6.fdg_dig.take _, by rw [List.length_take]; omega⟩, okN_of hRl hbl, cond_true, vlet_eq,
      gP ⟨M6.nrm_dg _, by have := M6.len_dg_le hRl; omega, by omega, by omega⟩, M6.val_dg, Nat.mul_div_cancel _ hp0, vlet_eq, gP ⟨M6.fdg_dig, by rw [M6.fdg_len hQl2]; omega⟩, M6.fdg_val, okN_of hQl hl, cond_true, vlet_eq] at e
    exact ⟨_, e, RsLe.refl _⟩

noncomputable def orc : Orc := orc2 (pI .u64) (pI .u64) sp
theorem fnok : FnOk Tryz.prog E 195 Tryz.f195 cod := fnOk ty_ok mixed (callsOkIO_of _ _ rfl rfl (ios_cons VLong.ok ios_nil) (orcs_cons NForm.ok (orcs_cons NCmp.ok (orcs_cons NNorm.ok (orcs_cons NDivWord.ok (orcs_cons NWord.ok (orcs_cons Lz64.ok (orcs_cons VShifted.ok (orcs_cons NShr.ok orcs_nil)))))))) (ext_ok)) Tryz.func195 rfl rfl rfl
theorem ok : OrcOk Tryz.prog base.glob 195 orc := fnok.wk2 rfl spec
end QuoRem
end Go.Proofs.YtknafopmgaolmaaGreatDoor.W

/- gnomon/num.Mod -/
namespace Go.Proofs.YtknafopmgaolmaaGreatDoor.W
open Go Go.Proofs.YtknafopmgaolmaaGreatDoor.AI Go.Proofs.YtknafopmgaolmaaGreatDoor.M
namespace MMod
noncomputable def E : Env := { ({ base with C := callsOf [(150, MForm.orc), (195, QuoRem.orc), (163, NSub.orc), (160, MTold.orc)] }) with nt := 60, own := [28, 50, 57], keep := fun k => (tlook [] k).getD [], cut := tlook [(3, [2, 3, 4])] }
noncomputable def cod : Code := (Go.Proofs.Tryz.f168.body).getD .skip
theorem nok : namesOk E cod = true := by kernel_rfl
noncomputable def J3 (b0 : Bool) (xs1 : List Int) (b2 : Bool) (xs3 : List Int) (b4 : Bool) : Option (List D) := ctO E Go.Proofs.Tryz.f168 cod 3 [(A.v (V.one (L.ptr (0 : Nat) (0 : Nat))), some { e := (33 : Nat), cont := Cont.cells [S.sc (Value.bool b0), S.ints IntKind.u64 xs1] }), (A.v (V.one (L.ptr (1 : Nat) (0 : Nat))), some { e := (33 : Nat), cont := Cont.cells [S.sc (Value.bool b2), S.ints IntKind.u64 xs3] }), (A.v (V.one (L.ptr (2 : Nat) (0 : Nat))), some { e := (33 : Nat), cont := Cont.cells [S.sc (Value.bool b4), S.sc (Value.slice none (0 : Nat) (0 : Nat))] })]
theorem start (a1 : Bool) (a2 : List Int) (b1 : Bool) (b2 : List Int) : evalFn E Go.Proofs.Tryz.f168 cod [D.agg [S.sc (Value.bool a1), S.ints IntKind.u64 a2], D.agg [S.sc (Value.bool b1), S.ints IntKind.u64 b2]] = gif (a2.length ≤ (1099511627776 : Nat)) (bcase (!MForm.formI (a1, a2)) (some [D.agg [S.sc (Value.bool false), S.sc (Value.slice none (0 : Nat) (0 : Nat))], D.s (S.sc (Value.int IntKind.i64 (2 : Int)))]) (gif (b2.length ≤ (1099511627776 : Nat)) (bcase (!MForm.formI (b1, b2)) (some [D.agg [S.sc (Value.bool false), S.sc (Value.slice none (0 : Nat) (0 : Nat))], D.s (S.sc (Value.int IntKind.i64 (2 : Int)))]) (MMod.J3 a1 a2 b1 b2 false)))) := (evalFn_J rfl nok _).trans (by kernel_rfl)
theorem J3_eq (b0 : Bool) (xs1 : List Int) (b2 : Bool) (xs3 : List Int) (b4 : Bool) : J3 b0 xs1 b2 xs3 b4 = bcase ((↑xs3.length : Int) == (0 : Int)) (some [D.agg [S.sc (Value.bool false), S.sc (Value.slice none (0 : Nat) (0 : Nat))], D.s (S.sc (Value.int IntKind.i64 (4 : Int)))]) (gif (M6.Nrm xs1 ∧ xs1.length ≤ (8192 : Nat) ∧ M6.Nrm xs3 ∧ (1 : Nat) ≤ xs3.length ∧ xs3.length ≤ (8192 : Nat)) (bcase (b0 != b2) (bcase (decide ((0 : Int) < (↑(M6.dg (M6.val xs1 % M6.val xs3)).length : Int))) (gif (M6.Nrm xs3 ∧ M6.Nrm (M6.dg (M6.val xs1 % M6.val xs3)) ∧ xs3.length ≤ (8192 : Nat) ∧ (M6.dg (M6.val xs1 % M6.val xs3)).length ≤ (8192 : Nat)) (gif (M6.Nrm (M6.dg (M6.val xs3 - M6.val (M6.dg (M6.val xs1 % M6.val xs3)))) ∧ (M6.dg (M6.val xs3 - M6.val (M6.dg (M6.val xs1 % M6.val xs3)))).length ≤ (1099511627776 : Nat)) (some [D.agg [S.sc (Value.bool (isNeg (bif (if M6.val xs3 < M6.val (M6.dg (M6.val xs1 % M6.val xs3)) then (3 : Int) else (0 : Int)) == (0 : Int) then zs b2 (M6.val (M6.dg (M6.val xs3 - M6.val (M6.dg (M6.val xs1 % M6.val xs3))))) else (0 : Int)))), S.ints IntKind.u64 (M6.dg (bif (if M6.val xs3 < M6.val (M6.dg (M6.val xs1 % M6.val xs3)) then (3 : Int) else (0 : Int)) == (0 : Int) then zs b2 (M6.val (M6.dg (M6.val xs3 - M6.val (M6.dg (M6.val xs1 % M6.val xs3))))) else (0 : Int)).natAbs)], D.s (S.sc (Value.int IntKind.i64 (if M6.val xs3 < M6.val (M6.dg (M6.val xs1 % M6.val xs3)) then (3 : Int) else (0 : Int))))]))) (gif (M6.Nrm (M6.dg (M6.val xs1 % M6.val xs3)) ∧ (M6.dg (M6.val xs1 % M6.val xs3)).length ≤ (1099511627776 : Nat)) (some [D.agg [S.sc (Value.bool (isNeg (zs b2 (M6.val (M6.dg (M6.val xs1 % M6.val xs3)))))), S.ints IntKind.u64 (M6.dg (zs b2 (M6.val (M6.dg (M6.val xs1 % M6.val xs3)))).natAbs)], D.s (S.sc (Value.int IntKind.i64 (0 : Int)))]))) (gif (M6.Nrm (M6.dg (M6.val xs1 % M6.val xs3)) ∧ (M6.dg (M6.val xs1 % M6.val xs3)).length ≤ (1099511627776 : Nat)) (some [D.agg [S.sc (Value.bool (isNeg (zs b2 (M6.val (M6.dg (M6.val xs1 % M6.val xs3)))))), S.ints IntKind.u64 (M6.dg (zs b2 (M6.val (M6.dg (M6.val xs1 % M6.val xs3)))).natAbs)], D.s (S.sc (Value.int IntKind.i64 (0 : Int)))])))) := (cutAt_J rfl nok 3 _).trans (by kernel_rfl)
-- stuck: 0
end MMod
namespace MMod
noncomputable def sp (x y : Bool × List Int) : Prop × List D := (Wok x ∧ Wok y ∧ y.1 = false ∧ 1 ≤ y.2.length, [wD (wv x % wv y), .s (.sc (.int .i64 0))])
theorem spec (x y : Bool × List Int) (h : (sp x y).1) : evalFn E Tryz.f168 cod [(pG (.pair sB (sI .u64))).put x, (pG (.pair sB (sI .u64))).put y] = some (sp x y).2 := by
  obtain ⟨hx, hy, hn, h1⟩ := h
  refine (start x.1 x.2 y.1 y.2).trans ?_
  have l1 := hx.len
  have l2 := hy.len
  have f1 := MForm.form_ok hx
  have f2 := MForm.form_ok hy
  have b2 := hy.bl
  obtain ⟨p, a⟩ := x
  obtain ⟨q, b⟩ := y
  have n1 : M6.Nrm a := hx.1
  have n2 : M6.Nrm b := hy.1
  try dsimp only at *
  subst hn
  unfold sp
  try dsimp only
  have hz : M6.val b ≠ 0 := fun h => by have := (M6.len_zero n2).2 h; omega
  have hm := Nat.mod_lt (M6.val a) (show 0 < M6.val b by omega)
  have hl := len6_bl (n := M6.val a % M6.val b) (k := 8192) (Nat.le_trans (bl_mono (Nat.le_of_lt hm)) b2)
  have hl' := len6_bl (n := M6.val b - M6.val a % M6.val b) (k := 8192) (Nat.le_trans (bl_mono (Nat.sub_le _ _)) b2)
  have hb : wv (false, b) = (M6.val b : Int) := wv_pos (x := (false, b)) rfl
  have zf : ∀ n : Nat, zs false n = (n : Int) := fun n => rfl
  rw [gP (by omega), f1, Bool.not_true, bF, gP (by omega), f2, Bool.not_true, bF, J3_eq, bE_neg (by omega), gP ⟨n1, l1, n2, h1, l2⟩]
  simp only [M6.val_dg]
  cases p with
  | false =>
    have ha : wv (false, a) = (M6.val a : Int) := wv_pos (x := (false, a)) rfl
    rw [show (false != false) = false from rfl, bF, gP ⟨M6.nrm_dg _, by omega⟩, ha, hb, ← Int.natCast_emod]
    rfl
  | true =>
    have ha : wv (true, a) = -(M6.val a : Int) := wv_neg (x := (true, a)) rfl
    rw [show (true != false) = true from rfl, bT]
    by_cases hr : M6.val a % M6.val b = 0
    · have e0 : -(M6.val a : Int) % (M6.val b : Int) = 0 := by
        have hdm := Nat.div_add_mod (M6.val a) (M6.val b)
        rw [hr, Nat.add_zero] at hdm
        rw [← hdm, Int.natCast_mul, ← Int.mul_neg]
        exact Int.mul_emod_right _ _
      rw [hr, M6.dg_zero, bD_neg (by simp), gP ⟨M6.nrm_nil, by simp⟩, ha, hb, e0]
      rfl
    · have hd : (M6.dg (M6.val a % M6.val b)).length ≠ 0 := fun h => hr (M6.dg_len_zero.1 h)
      have e0 : -(M6.val a : Int) % (M6.val b : Int) = ((M6.val b - M6.val a % M6.val b : Nat) : Int) := by
        have hdm := Nat.div_add_mod (M6.val a) (M6.val b)
        have e1 : -(M6.val a : Int) = ((M6.val b - M6.val a % M6.val b : Nat) : Int) + (M6.val b : Int) * (-(((M6.val a / M6.val b + 1 : Nat)) : Int)) := by
          have e2 : ((M6.val b * (M6.val a / M6.val b) + M6.val a % M6.val b : Nat) : Int) = (M6.val a : Int) := by rw [hdm]
          rw [Int.natCast_add, Int.natCast_mul] at e2
          rw [Int.mul_neg, Int.natCast_add, Int.mul_add]
          generalize M6.val a % M6.val b = r at *
          generalize (M6.val b : Int) * ((M6.val a / M6.val b : Nat) : Int) = z at *
          omega
        rw [e1, Int.add_mul_emod_self_left]
        exact Int.emod_eq_of_lt (by omega) (by omega)
      rw [bD_pos (by omega), gP ⟨n2, M6.nrm_dg _, l2, hl⟩, gP ⟨M6.nrm_dg _, by omega⟩, if_neg (by omega), ha, hb, e0]
      rfl

noncomputable def orc : Orc := orc2 (pG (.pair sB (sI .u64))) (pG (.pair sB (sI .u64))) sp
theorem fnok : FnOk Tryz.prog E 168 Tryz.f168 cod := fnOk ty_ok mixed (callsOk_of _ rfl (orcs_cons MForm.ok (orcs_cons QuoRem.ok (orcs_cons NSub.ok (orcs_cons MTold.ok orcs_nil)))) (ext_ok)) Tryz.func168 rfl rfl rfl
theorem ok : OrcOk Tryz.prog base.glob 168 orc := fnok.ok2 rfl spec
end MMod
end Go.Proofs.YtknafopmgaolmaaGreatDoor.W

/- gnomon/num.Small -/
namespace Go.Proofs.YtknafopmgaolmaaGreatDoor.W
open Go Go.Proofs.YtknafopmgaolmaaGreatDoor.AI Go.Proofs.YtknafopmgaolmaaGreatDoor.M
namespace MSmall
noncomputable def E : Env := { ({ base with C := callsOf [(150, MForm.orc)] }) with nt := 40, own := [], keep := fun k => (tlook [] k).getD [], cut := tlook [(8, [1, 4])] }
noncomputable def cod : Code := (Go.Proofs.Tryz.f169.body).getD .skip
theorem nok : namesOk E cod = true := by kernel_rfl
noncomputable def J8 (b0 : Bool) (xs1 : List Int) (x2 : Int) : Option (List D) := ctO E Go.Proofs.Tryz.f169 cod 8 [(A.v (V.one (L.ptr (0 : Nat) (0 : Nat))), some { e := (33 : Nat), cont := Cont.cells [S.sc (Value.bool b0), S.ints IntKind.u64 xs1] }), (A.v (V.one (L.s (S.sc (Value.int IntKind.u64 x2)))), none)]
theorem start (a1 : Bool) (a2 : List Int) : evalFn E Go.Proofs.Tryz.f169 cod [D.agg [S.sc (Value.bool a1), S.ints IntKind.u64 a2]] = gif (a2.length ≤ (1099511627776 : Nat)) (bcase (!MForm.formI (a1, a2)) (some [D.s (S.sc (Value.int IntKind.i64 (0 : Int))), D.s (S.sc (Value.int IntKind.i64 (2 : Int)))]) (bcase ((↑a2.length : Int) == (0 : Int)) (some [D.s (S.sc (Value.int IntKind.i64 (0 : Int))), D.s (S.sc (Value.int IntKind.i64 (0 : Int)))]) (if (0 : Int) ≤ (0 : Int) ∧ (0 : Int) < (↑a2.length : Int) then bcase (decide ((1 : Int) < (↑a2.length : Int))) (some [D.s (S.sc (Value.int IntKind.i64 (0 : Int))), D.s (S.sc (Value.int IntKind.i64 (5 : Int)))]) (bcase (decide ((9223372036854775808 : Int) < a2.getD (0 : Nat) (0 : Int))) (some [D.s (S.sc (Value.int IntKind.i64 (0 : Int))), D.s (S.sc (Value.int IntKind.i64 (5 : Int)))]) (bcase (a2.getD (0 : Nat) (0 : Int) == (9223372036854775808 : Int)) (bcase (!a1) (some [D.s (S.sc (Value.int IntKind.i64 (0 : Int))), D.s (S.sc (Value.int IntKind.i64 (5 : Int)))]) (MSmall.J8 a1 a2 (a2.getD (0 : Nat) (0 : Int)))) (MSmall.J8 a1 a2 (a2.getD (0 : Nat) (0 : Int))))) else none))) := (evalFn_J rfl nok _).trans (by kernel_rfl)
theorem J8_eq (b0 : Bool) (xs1 : List Int) (x2 : Int) : J8 b0 xs1 x2 = bcase b0 (some [D.s (S.sc (Value.int IntKind.i64 (IntKind.i64.wrap (IntKind.u64.wrap ((0 : Int) - x2))))), D.s (S.sc (Value.int IntKind.i64 (0 : Int)))]) (some [D.s (S.sc (Value.int IntKind.i64 (IntKind.i64.wrap x2))), D.s (S.sc (Value.int IntKind.i64 (0 : Int)))]) := (cutAt_J rfl nok 8 _).trans (by kernel_rfl)
-- stuck: 0
end MSmall
namespace MSmall
/-- Does a number fit a machine's word? -/
def smallB (z : Int) : Bool := decide (-9223372036854775808 ≤ z) && decide (z < 9223372036854775808)
noncomputable def sp (x : Bool × List Int) : Prop × List D := (Wok x, [.s (.sc (.int .i64 (bif smallB (wv x) then wv x else 0))), .s (.sc (.int .i64 (bif smallB (wv x) then 0 else 5)))])
theorem spec (x : Bool × List Int) (h : (sp x).1) : evalFn E Tryz.f169 cod [(pG (.pair sB (sI .u64))).put x] = some (sp x).2 := by
  have h : Wok x := h
  refine (start x.1 x.2).trans ?_
  obtain ⟨b, a⟩ := x
  have hl : a.length ≤ 8192 := h.len
  have h1 : M6.Nrm a := h.1
  have g := h1.dig.get 0
  have hf := MForm.form_ok h
  try dsimp only
  unfold sp
  try dsimp only
  rw [gP (by omega), hf, Bool.not_true, bF]
  have yes : ∀ z : Int, -9223372036854775808 ≤ z → z < 9223372036854775808 → smallB z = true := fun z h h' => by unfold smallB; rw [decide_eq_true h, decide_eq_true h']; rfl
  have no : ∀ z : Int, (z < -9223372036854775808 ∨ 9223372036854775808 ≤ z) → smallB z = false := fun z h => by
    unfold smallB
    rcases h with h | h
    · rw [decide_eq_false (by omega), Bool.false_and]
    · rw [decide_eq_false (show ¬ z < _ by omega), Bool.and_false]
  by_cases hz : a.length = 0
  · have hv := (M6.len_zero h1).1 hz
    have : wv (b, a) = 0 := by
      have := wv_abs (b, a)
      rw [show M6.val (b, a).2 = 0 from hv] at this
      omega
    rw [bE_pos (by omega), this]
    rfl
  · rw [bE_neg (by omega), if_pos ⟨by omega, by omega⟩]
    have hvz : M6.val a ≠ 0 := fun h => hz ((M6.len_zero h1).2 h)
    have habs := wv_abs (b, a)
    try dsimp only at habs
    by_cases h2 : 1 < a.length
    · have hge : 18446744073709551616 ≤ M6.val a := by
        have := M6.ge_of_len (n := M6.val a) (k := 1) (by rw [nrm6_len h1]; exact h2)
        omega
      rw [bD_pos (by omega), no _ (by omega)]
      rfl
    · have hv : M6.val a = (a.getD 0 0).toNat := by
        have := M6.val_take_one (a := a) 0
        rw [M6.val_take_ge (by omega)] at this
        simpa [M6.val] using this
      rw [bD_neg (by omega)]
      generalize a.getD 0 0 = w at *
      by_cases h3 : 9223372036854775808 < w
      · rw [bD_pos h3, no _ (by omega)]
        rfl
      · rw [bD_neg h3, J8_eq]
        cases b with
        | true =>
          have hw : wv (true, a) = -(M6.val a : Int) := wv_neg (x := (true, a)) rfl
          have e1 : IntKind.i64.wrap (IntKind.u64.wrap (0 - w)) = wv (true, a) := by rw [hw, wrap_u64_eq, wrap_i64_eq]; omega
          rw [yes _ (by omega) (by omega), Bool.not_true, bF, bT, e1]
          unfold bcase
          cases (w == 9223372036854775808) <;> rfl
        | false =>
          have hw : wv (false, a) = (M6.val a : Int) := wv_pos (x := (false, a)) rfl
          rw [Bool.not_false, bT, bF]
          by_cases h4 : w = 9223372036854775808
          · rw [bE_pos h4, no _ (by omega)]
            rfl
          · rw [bE_neg h4, yes _ (by omega) (by omega), wrap_i64 (by omega) (by omega)]
            rw [show w = wv (false, a) from by omega]
            rfl

noncomputable def orc : Orc := orc1 (pG (.pair sB (sI .u64))) sp
theorem fnok : FnOk Tryz.prog E 169 Tryz.f169 cod := fnOk ty_ok mixed (callsOk_of _ rfl (orcs_cons MForm.ok orcs_nil) (ext_ok)) Tryz.func169 rfl rfl rfl
theorem ok : OrcOk Tryz.prog base.glob 169 orc := fnok.ok1 rfl spec
end MSmall
end Go.Proofs.YtknafopmgaolmaaGreatDoor.W

/- gnomon/turn.mod4 -/
namespace Go.Proofs.YtknafopmgaolmaaGreatDoor.W
open Go Go.Proofs.YtknafopmgaolmaaGreatDoor.AI Go.Proofs.YtknafopmgaolmaaGreatDoor.M
namespace UMod4
noncomputable def E : Env := { ({ base with C := callsOf [(98, MOf.orc), (168, MMod.orc), (169, MSmall.orc)] }) with nt := 19, own := [15], keep := fun k => (tlook [] k).getD [], cut := tlook [] }
noncomputable def cod : Code := (Go.Proofs.Tryz.f111.body).getD .skip
theorem nok : namesOk E cod = true := by kernel_rfl
theorem start (a1 : Bool) (a2 : List Int) : evalFn E Go.Proofs.Tryz.f111 cod [D.agg [S.sc (Value.bool a1), S.ints IntKind.u64 a2]] = gif ((-9223372036854775808 : Int) ≤ (4 : Int) ∧ (4 : Int) < (9223372036854775808 : Int)) (gif (Wok (a1, a2) ∧ Wok (isNeg (4 : Int), M6.dg (4 : Nat)) ∧ isNeg (4 : Int) = false ∧ (1 : Nat) ≤ (M6.dg (4 : Nat)).length) (gif (Wok (isNeg (wv (a1, a2) % wv (isNeg (4 : Int), M6.dg (4 : Nat))), M6.dg (wv (a1, a2) % wv (isNeg (4 : Int), M6.dg (4 : Nat))).natAbs)) (some [D.s (S.sc (Value.int IntKind.i64 (bif MSmall.smallB (wv (isNeg (wv (a1, a2) % wv (isNeg (4 : Int), M6.dg (4 : Nat))), M6.dg (wv (a1, a2) % wv (isNeg (4 : Int), M6.dg (4 : Nat))).natAbs)) then wv (isNeg (wv (a1, a2) % wv (isNeg (4 : Int), M6.dg (4 : Nat))), M6.dg (wv (a1, a2) % wv (isNeg (4 : Int), M6.dg (4 : Nat))).natAbs) else (0 : Int))))]))) := (evalFn_J rfl nok _).trans (by kernel_rfl)
-- stuck: 0
end UMod4
namespace UMod4
noncomputable def sp (x : Bool × List Int) : Prop × List D := (Wok x, [.s (.sc (.int .i64 (wv x % 4)))])
theorem spec (x : Bool × List Int) (h : (sp x).1) : evalFn E Tryz.f111 cod [(pG (.pair sB (sI .u64))).put x] = some (sp x).2 := by
  have h : Wok x := h
  have e4 : wv (isNeg 4, M6.dg 4) = 4 := wv_wD 4
  have w4 : Wok (isNeg 4, M6.dg 4) := wok_wD (z := 4) (Nat.le_trans (bl_le.2 (show (4 : Int).natAbs < 2 ^ 3 by decide)) (by omega))
  have l4 : (M6.dg 4).length = 1 := by
    have h1 := M6.len_dg_le (n := 4) (k := 1) (by decide)
    have h2 : (M6.dg 4).length ≠ 0 := fun h => by have := M6.dg_len_zero.1 h; omega
    omega
  have hr : 0 ≤ wv x % 4 ∧ wv x % 4 < 4 := by omega
  refine (start x.1 x.2).trans ?_
  rw [gP (by omega), gP ⟨h, w4, rfl, Nat.le_of_eq l4.symm⟩, e4, wv_wD]
  show gif _ _ = some [D.s (.sc (.int .i64 (wv x % 4)))]
  generalize wv (x.1, x.2) % 4 = r at *
  rw [gP (wok_wD (Nat.le_trans (bl_le.2 (show r.natAbs < 2 ^ 3 by omega)) (by omega)))]
  have : MSmall.smallB r = true := by unfold MSmall.smallB; rw [decide_eq_true (by omega), decide_eq_true (by omega)]; rfl
  rw [this]
  rfl

noncomputable def orc : Orc := orc1 (pG (.pair sB (sI .u64))) sp
theorem fnok : FnOk Tryz.prog E 111 Tryz.f111 cod := fnOk ty_ok mixed (callsOk_of _ rfl (orcs_cons MOf.ok (orcs_cons MMod.ok (orcs_cons MSmall.ok orcs_nil))) (ext_ok)) Tryz.func111 rfl rfl rfl
theorem ok : OrcOk Tryz.prog base.glob 111 orc := fnok.ok1 rfl spec
end UMod4
end Go.Proofs.YtknafopmgaolmaaGreatDoor.W

/- gnomon/turn.Reduce -/
namespace Go.Proofs.YtknafopmgaolmaaGreatDoor.W
open Go Go.Proofs.YtknafopmgaolmaaGreatDoor.AI Go.Proofs.YtknafopmgaolmaaGreatDoor.M
namespace UReduce
noncomputable def E : Env := { ({ base with C := callsOf [(44, BValue.orc), (86, DScale.orc), (45, DAdd.orc), (109, UDyad.orc), (110, DDownAt.orc), (75, DSub.orc), (104, MShl.orc), (111, UMod4.orc)] }) with nt := 71, own := [22, 68], keep := fun k => (tlook [] k).getD [], cut := tlook [] }
noncomputable def cod : Code := (Go.Proofs.Tryz.f49.body).getD .skip
theorem nok : namesOk E cod = true := by kernel_rfl
theorem start (a : Int) : evalFn E Go.Proofs.Tryz.f49 cod [D.s (S.sc (Value.int IntKind.u64 a))] = gif (((64 : Int) = (32 : Int) ∨ (64 : Int) = (64 : Int)) ∧ (0 : Int) ≤ a ∧ a < (18446744073709551616 : Int))
  (vlet (isNeg (bif BTake.patB (64 : Int) a && BFinite.finB (64 : Int) a then nrmD (BValue.valZ (64 : Int) a) (BValue.valE (64 : Int) a) else ((0 : Int), (0 : Int))).fst) fun y0 ↦
    vlet (M6.dg (bif BTake.patB (64 : Int) a && BFinite.finB (64 : Int) a then nrmD (BValue.valZ (64 : Int) a) (BValue.valE (64 : Int) a) else ((0 : Int), (0 : Int))).fst.natAbs) fun y1 ↦
      vlet (bif BTake.patB (64 : Int) a && BFinite.finB (64 : Int) a then nrmD (BValue.valZ (64 : Int) a) (BValue.valE (64 : Int) a) else ((0 : Int), (0 : Int))).snd fun y2 ↦
        vlet (bif BTake.patB (64 : Int) a then bif BFinite.finB (64 : Int) a then (0 : Int) else (6 : Int) else (2 : Int)) fun y3 ↦
          bcase (y3 != (0 : Int)) (some [D.s (S.sc (Value.int IntKind.i64 (0 : Int))), D.agg [S.sc (Value.bool false), S.sc (Value.slice none (0 : Nat) (0 : Nat)), S.sc (Value.int IntKind.i64 (0 : Int))], D.s (S.sc (Value.int IntKind.i64 y3))])
            (gif (DyOk (y0, y1, y2) ∧ (-9223372036854775808 : Int) ≤ (1 : Int) ∧ (1 : Int) < (9223372036854775808 : Int))
              (vlet (isNeg (bif DScale.scOk (dv (y0, y1, y2)) (1 : Int) then DScale.scD (dv (y0, y1, y2)) (1 : Int) else ((0 : Int), (0 : Int))).fst) fun y4 ↦
                vlet (M6.dg (bif DScale.scOk (dv (y0, y1, y2)) (1 : Int) then DScale.scD (dv (y0, y1, y2)) (1 : Int) else ((0 : Int), (0 : Int))).fst.natAbs) fun y5 ↦
                  vlet (bif DScale.scOk (dv (y0, y1, y2)) (1 : Int) then DScale.scD (dv (y0, y1, y2)) (1 : Int) else ((0 : Int), (0 : Int))).snd fun y6 => gif (((-9223372036854775808 : Int) ≤ (1 : Int) ∧ (1 : Int) < (9223372036854775808 : Int)) ∧ (-9223372036854775808 : Int) ≤ (-1 : Int) ∧ (-1 : Int) < (9223372036854775808 : Int)) (vlet (isNeg (bif inD (1 : Int) (-1 : Int) then nrmD (1 : Int) (-1 : Int) else ((0 : Int), (0 : Int))).fst) fun y8 => vlet (M6.dg (bif inD (1 : Int) (-1 : Int) then nrmD (1 : Int) (-1 : Int) else ((0 : Int), (0 : Int))).fst.natAbs) fun y9 => vlet (bif inD (1 : Int) (-1 : Int) then nrmD (1 : Int) (-1 : Int) else ((0 : Int), (0 : Int))).snd fun y10 => gif (DyOk (y4, y5, y6) ∧ DyOk (y8, y9, y10)) (vlet (isNeg (bif DAdd.addOk (dv (y4, y5, y6)) (dv (y8, y9, y10)) then DAdd.addD (dv (y4, y5, y6)) (dv (y8, y9, y10)) else ((0 : Int), (0 : Int))).fst) fun y11 => vlet (M6.dg (bif DAdd.addOk (dv (y4, y5, y6)) (dv (y8, y9, y10)) then DAdd.addD (dv (y4, y5, y6)) (dv (y8, y9, y10)) else ((0 : Int), (0 : Int))).fst.natAbs) fun y12 => vlet (bif DAdd.addOk (dv (y4, y5, y6)) (dv (y8, y9, y10)) then DAdd.addD (dv (y4, y5, y6)) (dv (y8, y9, y10)) else ((0 : Int), (0 : Int))).snd fun y13 => gif (DyOk (y11, y12, y13) ∧ (-4611686018427387904 : Int) ≤ (0 : Int) ∧ (0 : Int) < (4611686018427387904 : Int)) (vlet (isNeg (bif DGrid.gridOk (dv (y11, y12, y13)) (0 : Int) then DGrid.gridD (dv (y11, y12, y13)) (0 : Int) else ((0 : Int), (0 : Int))).fst) fun y15 => vlet (M6.dg (bif DGrid.gridOk (dv (y11, y12, y13)) (0 : Int) then DGrid.gridD (dv (y11, y12, y13)) (0 : Int) else ((0 : Int), (0 : Int))).fst.natAbs) fun y16 => vlet (bif DGrid.gridOk (dv (y11, y12, y13)) (0 : Int) then DGrid.gridD (dv (y11, y12, y13)) (0 : Int) else ((0 : Int), (0 : Int))).snd fun y17 => gif (DyOk (y15, y16, y17) ∧ (-9223372036854775808 : Int) ≤ (-1 : Int) ∧ (-1 : Int) < (9223372036854775808 : Int)) (vlet (isNeg (bif DScale.scOk (dv (y15, y16, y17)) (-1 : Int) then DScale.scD (dv (y15, y16, y17)) (-1 : Int) else ((0 : Int), (0 : Int))).fst) fun y19 => vlet (M6.dg (bif DScale.scOk (dv (y15, y16, y17)) (-1 : Int) then DScale.scD (dv (y15, y16, y17)) (-1 : Int) else ((0 : Int), (0 : Int))).fst.natAbs) fun y20 => vlet (bif DScale.scOk (dv (y15, y16, y17)) (-1 : Int) then DScale.scD (dv (y15, y16, y17)) (-1 : Int) else ((0 : Int), (0 : Int))).snd fun y21 => gif (DyOk (y0, y1, y2) ∧ DyOk (y19, y20, y21)) (vlet (isNeg (bif DAdd.addOk (dv (y0, y1, y2)) (-(dv (y19, y20, y21)).fst, (dv (y19, y20, y21)).snd) then DAdd.addD (dv (y0, y1, y2)) (-(dv (y19, y20, y21)).fst, (dv (y19, y20, y21)).snd) else ((0 : Int), (0 : Int))).fst) fun y23 => vlet (M6.dg (bif DAdd.addOk (dv (y0, y1, y2)) (-(dv (y19, y20, y21)).fst, (dv (y19, y20, y21)).snd) then DAdd.addD (dv (y0, y1, y2)) (-(dv (y19, y20, y21)).fst, (dv (y19, y20, y21)).snd) else ((0 : Int), (0 : Int))).fst.natAbs) fun y24 => vlet (bif DAdd.addOk (dv (y0, y1, y2)) (-(dv (y19, y20, y21)).fst, (dv (y19, y20, y21)).snd) then DAdd.addD (dv (y0, y1, y2)) (-(dv (y19, y20, y21)).fst, (dv (y19, y20, y21)).snd) else ((0 : Int), (0 : Int))).snd fun y25 => bcase (decide (y17 < (2 : Int))) (gif (Wok (y15, y16) ∧ (0 : Int) ≤ y17 ∧ y17 < (4611686018427387904 : Int)) (vlet (isNeg (bif fit (M6.val y16 * (2 : Nat) ^ y17.toNat) then wv (y15, y16) * (↑((2 : Nat) ^ y17.toNat) : Int) else (0 : Int))) fun y27 => vlet (M6.dg (bif fit (M6.val y16 * (2 : Nat) ^ y17.toNat) then wv (y15, y16) * (↑((2 : Nat) ^ y17.toNat) : Int) else (0 : Int)).natAbs) fun y28 => gif (Wok (y27, y28)) (vlet (wv (y27, y28) % (4 : Int)) fun y30 => some [D.s (S.sc (Value.int IntKind.i64 y30)), D.agg [S.sc (Value.bool y23), S.ints IntKind.u64 y24, S.sc (Value.int IntKind.i64 y25)], D.s (S.sc (Value.int IntKind.i64 (0 : Int)))]))) (some [D.s (S.sc (Value.int IntKind.i64 (0 : Int))), D.agg [S.sc (Value.bool y23), S.ints IntKind.u64 y24, S.sc (Value.int IntKind.i64 y25)], D.s (S.sc (Value.int IntKind.i64 (0 : Int)))]))))))))) := (evalFn_J rfl nok _).trans (by kernel_rfl)
-- stuck: 0
end UReduce
namespace UReduce
/-- The floor of 2x + 1/2, of x = p in form; what is left; the remainder. -/
def redK (p : Int × Int) : Int := if 0 ≤ p.2 then p.1 * p2 (p.2 + 1) else (p.1 * 4 + p2 (-p.2)) / p2 (1 - p.2)
def redR (p : Int × Int) : Int := if 0 ≤ p.2 then 0 else p.1 * 2 - redK p * p2 (-p.2)
def redD (p : Int × Int) : Int × Int := nrmD (redR p) (p.2 - 1)
/-- The number of a finite binary64 pattern. -/
def numV (a : Int) : Int × Int := nrmD (BValue.valZ 64 a) (BValue.valE 64 a)
noncomputable def sp (a : Int) : Prop × List D := (0 ≤ a ∧ a < 18446744073709551616, [.s (.sc (.int .i64 (bif BFinite.finB 64 a then redK (numV a) % 4 else 0))), dD (bif BFinite.finB 64 a then redD (numV a) else (0, 0)), .s (.sc (.int .i64 (bif BFinite.finB 64 a then 0 else 6)))])
theorem val_lt {a : Int} (_ : 0 ≤ a) (hf : BFinite.finB 64 a = true) : (BValue.valZ 64 a).natAbs < 2 ^ 53 ∧ -1074 ≤ BValue.valE 64 a ∧ BValue.valE 64 a ≤ 971 := by
  have hn0 : 0 ≤ a % BSign.signV (BShape.shp 64) := by rw [show BSign.signV (BShape.shp 64) = 9223372036854775808 from rfl]; omega
  have hfin : a % BSign.signV (BShape.shp 64) < BInf.infV (BShape.shp 64) := of_decide_eq_true hf
  have hm := BValue.man_lt BShape.two64 hn0
  have hx := BValue.exp_lt BShape.two64 hn0 hfin
  refine ⟨?_, hx.1, ?_⟩
  · unfold BValue.valZ
    rw [zs_abs]
    have := hm.2
    rw [show BShape.shp 64 = (64, 53, -1074, 9221120237041090561) from rfl] at *
    omega
  · unfold BValue.valE BParts.expV
    rw [show BInf.infV (BShape.shp 64) = 9218868437227405312 from rfl] at hfin
    rw [show BHidden.hidV (BShape.shp 64) = 4503599627370496 from rfl]
    rw [show (BShape.shp 64).2.2.1 = -1074 from rfl]
    split <;> omega
theorem num_lt {a : Int} (h0 : 0 ≤ a) (hf : BFinite.finB 64 a = true) : PIn (numV a) ∧ (numV a).1.natAbs < 2 ^ 53 ∧ -1074 ≤ (numV a).2 ∧ (numV a).2 ≤ 1024 := by
  obtain ⟨h1, h2, h3⟩ := val_lt h0 hf
  have hb : bl (BValue.valZ 64 a).natAbs ≤ 53 := bl_le.2 h1
  have ha := nrmD_abs (BValue.valZ 64 a) (BValue.valE 64 a)
  refine ⟨pin_nrm (inD_of (by omega) (by omega)) (by omega), ?_, ?_⟩
  · unfold numV
    omega
  · unfold numV
    by_cases hz : BValue.valZ 64 a = 0
    · rw [hz, nrmD_zero]
      exact ⟨by show (-1074 : Int) ≤ 0; omega, by show (0 : Int) ≤ 1024; omega⟩
    · have := (nrmD_val (e := BValue.valE 64 a) hz).2
      have := tz_bl (n := (BValue.valZ 64 a).natAbs) (by omega)
      omega
theorem spec (a : Int) (h : (sp a).1) : ∃ rs, evalFn E Tryz.f49 cod [(pN .u64).put a] = some rs ∧ RsLe rs (sp a).2 := by
  obtain ⟨h0, h1⟩ := h
  have hp : BTake.patB 64 a = true := rfl
  unfold sp
  try dsimp only
  cases hf : BFinite.finB 64 a with
  | false =>
    have s := start a
    rw [gP ⟨.inr rfl, h0, h1⟩, hp, hf, vl, vl, vl, vl, bN_pos (by decide)] at s
    refine ⟨_, s, .cons (RLe.refl _) (.cons ?_ (RsLe.refl _))⟩
    unfold dD
    rw [cond_false, show ((0, 0) : Int × Int).1.natAbs = 0 from rfl, M6.dg_zero]
    exact RLe.agg (.cons (SLe.refl _) (.cons (SLe.nil _) (CsLe.refl _)))
  | true =>
    refine ⟨_, (start a).trans ((gP ⟨.inr rfl, h0, h1⟩).trans ?_), RsLe.refl _⟩
    try dsimp only [cond_true]
    have e1 : (bif BTake.patB 64 a && BFinite.finB 64 a then nrmD (BValue.valZ 64 a) (BValue.valE 64 a) else ((0 : Int), (0 : Int))) = numV a := by rw [hp, hf]; rfl
    have e1' : (bif BTake.patB 64 a then bif BFinite.finB 64 a then (0 : Int) else 6 else 2) = 0 := by rw [hp, hf]; rfl
    rw [e1, e1', vl_dy, vl, bN_neg rfl]
    obtain ⟨hpin, hm, he0, he1⟩ := num_lt h0 hf
    generalize numV a = p at *
    obtain ⟨m, e⟩ := p
    have hs : nrmD m e = (m, e) := hpin.same
    try dsimp only at hm he0 he1
    have bm : bl m.natAbs ≤ 53 := bl_le.2 hm
    rw [gP ⟨dyok_of hpin, by omega, by omega⟩, dv_cells]
    have bK : bl (redK (m, e)).natAbs ≤ 1100 := by
      unfold redK
      try dsimp only
      split
      · have := bl_p2 (n := e + 1) (k := 1025) bm (by omega)
        omega
      · refine bl_div ?_ _
        have b1 := bl_p2 (z := m) (n := 2) (k := 2) bm (by omega)
        have b2 := bl_p2 (z := 1) (n := -e) (k := 1074) bl_one (by omega)
        rw [Int.one_mul] at b2
        exact Nat.le_trans (bl_sum (n := 1075) (Nat.le_trans b1 (by omega)) b2) (by omega)
    have hR : redD (m, e) = nrmD (if 0 ≤ e then 0 else m * 2 - redK (m, e) * p2 (-e)) (e - 1) := rfl
    have hK : redK (m, e) = if 0 ≤ e then m * p2 (e + 1) else (m * 4 + p2 (-e)) / p2 (1 - e) := rfl
    generalize redK (m, e) = K at *
    generalize redD (m, e) = R at *
    rw [← hs]
    have e2 : (bif DScale.scOk (nrmD m e) 1 then DScale.scD (nrmD m e) 1 else ((0 : Int), (0 : Int))) = nrmD m (e + 1) := by
      rw [scOk_nrm (by omega) (by omega), scD_nrm]; rfl
    have e3 : (bif inD 1 (-1) then nrmD 1 (-1) else ((0 : Int), (0 : Int))) = nrmD 1 (-1) := by
      rw [inD_of (by omega) (by have := bl_one; omega)]; rfl
    have p2' : PIn (nrmD m (e + 1)) := pin_nrm (inD_of (by omega) (by omega)) (by omega)
    have p3 : PIn (nrmD 1 (-1)) := pin_nrm (inD_of (by omega) (by have := bl_one; omega)) (by have := bl_one; omega)
    rw [e2, e3, vl_dy, gP ⟨by omega, by omega⟩, vl_dy, gP ⟨dyok_of p2', dyok_of p3⟩, dv_cells, dv_cells]
    -- the sum and its floor
    obtain ⟨S, G, hS, hG0, hG1, hok, hadd, hfl⟩ : ∃ S G : Int, bl S.natAbs ≤ 1100 ∧ -1100 ≤ G ∧ G ≤ -1 ∧ DAdd.addOk (nrmD m (e + 1)) (nrmD 1 (-1)) = true ∧ DAdd.addD (nrmD m (e + 1)) (nrmD 1 (-1)) = nrmD S G ∧ S / p2 (0 - G) = K := by
      by_cases hc : 0 ≤ e
      · have b1 := bl_p2 (z := m) (n := e + 1 - -1) (k := 1026) bm (by omega)
        have b2 := bl_p2 (z := 1) (n := -1 - -1) (k := 0) bl_one (by omega)
        refine ⟨_, -1, Nat.le_trans (bl_sum (n := 1080) (Nat.le_trans b1 (by omega)) (Nat.le_trans b2 (by omega))) (by omega), by omega, by omega, addOk_nrm (G := -1) (by omega) (by omega) (by omega) (by omega) (by omega) (by omega), addD_nrm (by omega) (by omega), ?_⟩
        rw [hK, if_pos hc, show e + 1 - -1 = e + 1 + 1 by omega, p2_add (by omega) (by omega), show p2 (0 - -1) = 2 from rfl, show p2 (-1 - -1) = 1 from rfl, p2_one]
        generalize p2 (e + 1) = q
        rw [← Int.mul_assoc]
        omega
      · have b1 := bl_p2 (z := m) (n := e + 1 - (e - 1)) (k := 2) bm (by omega)
        have b2 := bl_p2 (z := 1) (n := -1 - (e - 1)) (k := 1074) bl_one (by omega)
        refine ⟨_, e - 1, Nat.le_trans (bl_sum (n := 1080) (Nat.le_trans b1 (by omega)) (Nat.le_trans b2 (by omega))) (by omega), by omega, by omega, addOk_nrm (G := e - 1) (by omega) (by omega) (by omega) (by omega) (by omega) (by omega), addD_nrm (by omega) (by omega), ?_⟩
        rw [hK, if_neg hc, show e + 1 - (e - 1) = 2 by omega, show -1 - (e - 1) = -e by omega, Int.one_mul, show p2 2 = 4 from rfl, show 0 - (e - 1) = 1 - e by omega]
    have e4 : (bif DAdd.addOk (nrmD m (e + 1)) (nrmD 1 (-1)) then DAdd.addD (nrmD m (e + 1)) (nrmD 1 (-1)) else ((0 : Int), (0 : Int))) = nrmD S G := by rw [hok, hadd]; rfl
    have p4 : PIn (nrmD S G) := pin_nrm (inD_of (by omega) (by omega)) (by omega)
    have e5 : (bif DGrid.gridOk (nrmD S G) 0 then DGrid.gridD (nrmD S G) 0 else ((0 : Int), (0 : Int))) = nrmD K 0 := by
      rw [gridOk_nrm (by omega) (by omega) (by rw [hfl]; omega), gridD_nrm (by omega), hfl]; rfl
    have p5 : PIn (nrmD K 0) := pin_nrm (inD_of (by omega) (by omega)) (by omega)
    rw [e4, vl_dy, gP ⟨dyok_of p4, by omega, by omega⟩, dv_cells, e5, vl_dy, gP ⟨dyok_of p5, by omega, by omega⟩, dv_cells]
    have e6 : (bif DScale.scOk (nrmD K 0) (-1) then DScale.scD (nrmD K 0) (-1) else ((0 : Int), (0 : Int))) = nrmD K (-1) := by
      rw [scOk_nrm (by omega) (by omega), scD_nrm]; rfl
    have p6 : PIn (nrmD K (-1)) := pin_nrm (inD_of (by omega) (by omega)) (by omega)
    rw [e6, vl_dy, gP ⟨dyok_of (hs ▸ hpin), dyok_of p6⟩, dv_cells, ← nrmD_neg]
    have e7 : (bif DAdd.addOk (nrmD m e) (nrmD (-K) (-1)) then DAdd.addD (nrmD m e) (nrmD (-K) (-1)) else ((0 : Int), (0 : Int))) = R := by
      rw [hR]
      by_cases hc : 0 ≤ e
      · have b1 := bl_p2 (z := m) (n := e - -1) (k := 1026) bm (by omega)
        have b2 := bl_p2 (z := -K) (n := -1 - -1) (k := 0) (bl_neg bK) (by omega)
        rw [addOk_nrm (G := -1) (by omega) (by omega) (by omega) (by omega) (by omega) (by omega), addD_nrm (G := -1) (by omega) (by omega), if_pos hc, hK, if_pos hc, show e - -1 = e + 1 by omega, show p2 (-1 - -1) = 1 from rfl, Int.mul_one]
        rw [show m * p2 (e + 1) + -(m * p2 (e + 1)) = 0 by omega, nrmD_zero, nrmD_zero]
        rfl
      · have b1 := bl_p2 (z := m) (n := e - (e - 1)) (k := 1) bm (by omega)
        have b2 := bl_p2 (z := -K) (n := -1 - (e - 1)) (k := 1074) (bl_neg bK) (by omega)
        rw [addOk_nrm (G := e - 1) (by omega) (by omega) (by omega) (by omega) (by omega) (by omega), addD_nrm (G := e - 1) (by omega) (by omega), if_neg hc, show e - (e - 1) = 1 by omega, show -1 - (e - 1) = -e by omega, p2_one, Int.neg_mul, ← Int.sub_eq_add_neg]
        rfl
    rw [e7, vl_dy]
    have gK := nrmD_grid0 (z := K) (e := 0) (G := 0) (by omega)
    rw [Int.sub_self, Int.sub_zero, p2_zero, Int.mul_one] at gK
    have hk0 : 0 ≤ (nrmD K 0).2 := by
      by_cases hz : K = 0
      · rw [hz, nrmD_zero]; exact Int.le_refl 0
      · exact nrmD_ge hz
    have hvK : M6.val (M6.dg (nrmD K 0).1.natAbs) = (nrmD K 0).1.natAbs := M6.val_dg _
    have hfit : fit (M6.val (M6.dg (nrmD K 0).1.natAbs) * 2 ^ (nrmD K 0).2.toNat) = true := by
      rw [hvK, ← abs_p2, gK]
      exact decide_eq_true (by omega)
    by_cases hc : (nrmD K 0).2 < 2
    · rw [bD_pos hc, gP ⟨(dyok_of p5).wok, by omega, by omega⟩, wv_wD, hfit]
      have e8 : (bif true then (nrmD K 0).1 * ((2 ^ (nrmD K 0).2.toNat : Nat) : Int) else (0 : Int)) = K := gK
      rw [e8, vl, vl, gP (wok_wD (by omega)), wv_wD, vl]
      rfl
    · rw [bD_neg hc]
      have : K % 4 = 0 := by
        have e9 : p2 (nrmD K 0).2 = p2 ((nrmD K 0).2 - 2) * 4 := by
          have := p2_add (m := (nrmD K 0).2 - 2) (n := 2) (by omega) (by omega)
          rwa [show (nrmD K 0).2 - 2 + 2 = (nrmD K 0).2 by omega] at this
        rw [e9, ← Int.mul_assoc] at gK
        generalize (nrmD K 0).1 * p2 ((nrmD K 0).2 - 2) = q at *
        omega
      rw [this]
      rfl

noncomputable def orc : Orc := orc1 (pN .u64) sp
theorem fnok : FnOk Tryz.prog E 49 Tryz.f49 cod := fnOk ty_ok mixed (callsOk_of _ rfl (orcs_cons BValue.ok (orcs_cons DScale.ok (orcs_cons DAdd.ok (orcs_cons UDyad.ok (orcs_cons DDownAt.ok (orcs_cons DSub.ok (orcs_cons MShl.ok (orcs_cons UMod4.ok orcs_nil)))))))) (ext_ok)) Tryz.func49 rfl rfl rfl
theorem ok : OrcOk Tryz.prog base.glob 49 orc := fnok.wk1 rfl spec
end UReduce
end Go.Proofs.YtknafopmgaolmaaGreatDoor.W

/- gnomon/binary.Quiet -/
namespace Go.Proofs.YtknafopmgaolmaaGreatDoor.W
open Go Go.Proofs.YtknafopmgaolmaaGreatDoor.AI Go.Proofs.YtknafopmgaolmaaGreatDoor.M
namespace BQuiet
noncomputable def E : Env := { ({ base with C := callsOf [(114, BShape.orc)] }) with nt := 12, own := [], keep := fun k => (tlook [] k).getD [], cut := tlook [] }
noncomputable def cod : Code := (Go.Proofs.Tryz.f51.body).getD .skip
theorem nok : namesOk E cod = true := by kernel_rfl
theorem start (a : Int) : evalFn E Go.Proofs.Tryz.f51 cod [D.s (S.sc (Value.int IntKind.i64 a))] = gif True (bcase ((BShape.shp a).fst == (0 : Int) && ((BShape.shp a).snd.fst == (0 : Int) && ((BShape.shp a).snd.snd.fst == (0 : Int) && ((BShape.shp a).snd.snd.snd == (0 : Int) && true)))) (some [D.s (S.sc (Value.int IntKind.u64 (0 : Int))), D.s (S.sc (Value.int IntKind.i64 (1 : Int)))]) (some [D.s (S.sc (Value.int IntKind.u64 (BShape.shp a).snd.snd.snd)), D.s (S.sc (Value.int IntKind.i64 (0 : Int)))])) := (evalFn_J rfl nok _).trans (by kernel_rfl)
-- stuck: 0
end BQuiet
namespace BQuiet
/-- Is it a format? -/
def fmtB (f : Int) : Bool := decide (f = 32 ∨ f = 64)
noncomputable def sp (f : Int) : Prop × List D := (True, [.s (.sc (.int .u64 (BShape.shp f).2.2.2)), .s (.sc (.int .i64 (bif fmtB f then 0 else 1)))])
theorem spec (f : Int) (h : (sp f).1) : evalFn E Tryz.f51 cod [(pN .i64).put f] = some (sp f).2 := by
  refine (start f).trans ((gP trivial).trans ?_)
  unfold sp fmtB
  try dsimp only
  by_cases h1 : f = 32
  · subst h1; rfl
  · by_cases h2 : f = 64
    · subst h2; rfl
    · have : BShape.shp f = (0, 0, 0, 0) := by unfold BShape.shp; rw [if_neg h1, if_neg h2]
      rw [this, decide_eq_false (by omega)]
      rfl

noncomputable def orc : Orc := orc1 (pN .i64) sp
theorem fnok : FnOk Tryz.prog E 51 Tryz.f51 cod := fnOk ty_ok mixed (callsOk_of _ rfl (orcs_cons BShape.ok orcs_nil) (ext_ok)) Tryz.func51 rfl rfl rfl
theorem ok : OrcOk Tryz.prog base.glob 51 orc := fnok.ok1 rfl spec
end BQuiet
end Go.Proofs.YtknafopmgaolmaaGreatDoor.W

/- gnomon/turn.known -/
namespace Go.Proofs.YtknafopmgaolmaaGreatDoor.W
open Go Go.Proofs.YtknafopmgaolmaaGreatDoor.AI Go.Proofs.YtknafopmgaolmaaGreatDoor.M
namespace UKnown
noncomputable def E : Env := { (base) with nt := 13, own := [], keep := fun k => (tlook [] k).getD [], cut := tlook [] }
noncomputable def cod : Code := (Go.Proofs.Tryz.f91.body).getD .skip
theorem nok : namesOk E cod = true := by kernel_rfl
theorem start (a : Int) : evalFn E Go.Proofs.Tryz.f91 cod [D.s (S.sc (Value.int IntKind.i64 a))] = bcase (a == (4 : Int)) (some [D.s (S.sc (Value.bool true))]) (bcase (a == (5 : Int)) (some [D.s (S.sc (Value.bool true))]) (some [D.s (S.sc (Value.bool (a == (6 : Int))))])) := (evalFn_J rfl nok _).trans (by kernel_rfl)
-- stuck: 0
end UKnown
namespace UKnown
def knownB (a : Int) : Bool := decide (a = 4 ∨ a = 5 ∨ a = 6)
noncomputable def sp (a : Int) : Prop × List D := (True, [.s (.sc (.bool (knownB a)))])
theorem spec (a : Int) (h : (sp a).1) : evalFn E Tryz.f91 cod [(pN .i64).put a] = some (sp a).2 := by
  refine (start a).trans ?_
  unfold sp knownB
  try dsimp only
  by_cases h1 : a = 4
  · rw [bE_pos h1, decide_eq_true (by omega)]
  · rw [bE_neg h1]
    by_cases h2 : a = 5
    · rw [bE_pos h2, decide_eq_true (by omega)]
    · rw [bE_neg h2]
      by_cases h3 : a = 6
      · rw [beq_iff_eq.2 h3, decide_eq_true (by omega)]
      · rw [beq_eq_false_iff_ne.2 h3, decide_eq_false (by omega)]

noncomputable def orc : Orc := orc1 (pN .i64) sp
theorem fnok : FnOk Tryz.prog E 91 Tryz.f91 cod := fnOk ty_ok mixed (callsOk_of _ rfl orcs_nil (ext_ok)) Tryz.func91 rfl rfl rfl
theorem ok : OrcOk Tryz.prog base.glob 91 orc := fnok.ok1 rfl spec
end UKnown
end Go.Proofs.YtknafopmgaolmaaGreatDoor.W

/- (gnomon/binary.shape).class -/
namespace Go.Proofs.YtknafopmgaolmaaGreatDoor.W
open Go Go.Proofs.YtknafopmgaolmaaGreatDoor.AI Go.Proofs.YtknafopmgaolmaaGreatDoor.M
namespace BClass
noncomputable def E : Env := { ({ base with C := callsOf [(157, BHidden.orc), (156, BInf.orc)] }) with nt := 23, own := [], keep := fun k => (tlook [] k).getD [], cut := tlook [] }
noncomputable def cod : Code := (Go.Proofs.Tryz.f170.body).getD .skip
theorem nok : namesOk E cod = true := by kernel_rfl
theorem start (a1 : Int) (a2 : Int) (a3 : Int) (a4 : Int) (b : Int) : evalFn E Go.Proofs.Tryz.f170 cod [D.agg [S.sc (Value.int IntKind.i64 a1), S.sc (Value.int IntKind.i64 a2), S.sc (Value.int IntKind.i64 a3), S.sc (Value.int IntKind.u64 a4)], D.s (S.sc (Value.int IntKind.u64 b))] = bcase (b == (0 : Int)) (some [D.s (S.sc (Value.int IntKind.i64 (0 : Int)))]) (gif (BShape.Two (a1, a2, a3, a4)) (bcase (decide (b < BHidden.hidV (a1, a2, a3, a4))) (some [D.s (S.sc (Value.int IntKind.i64 (1 : Int)))]) (gif (BShape.Two (a1, a2, a3, a4)) (bcase (decide (b < BInf.infV (a1, a2, a3, a4))) (some [D.s (S.sc (Value.int IntKind.i64 (2 : Int)))]) (gif (BShape.Two (a1, a2, a3, a4)) (bcase (b == BInf.infV (a1, a2, a3, a4)) (some [D.s (S.sc (Value.int IntKind.i64 (3 : Int)))]) (some [D.s (S.sc (Value.int IntKind.i64 (4 : Int)))]))))))) := (evalFn_J rfl nok _).trans (by kernel_rfl)
-- stuck: 0
end BClass
namespace BClass
/-- The class of a size: 0 nought, 1 subnormal, 2 normal, 3 infinite, 4 NaN. -/
def classV (s : Int × Int × Int × Int) (n : Int) : Int := if n = 0 then 0 else if n < BHidden.hidV s then 1 else if n < BInf.infV s then 2 else if n = BInf.infV s then 3 else 4
noncomputable def sp (s : Int × Int × Int × Int) (n : Int) : Prop × List D := (BShape.Two s, [.s (.sc (.int .i64 (classV s n)))])
theorem spec (s : Int × Int × Int × Int) (n : Int) (h : (sp s n).1) : evalFn E Tryz.f170 cod [(pG (.pair (sN .i64) (.pair (sN .i64) (.pair (sN .i64) (sN .u64))))).put s, (pN .u64).put n] = some (sp s n).2 := by
  obtain ⟨s1, s2, s3, s4⟩ := s
  have h : BShape.Two (s1, s2, s3, s4) := h
  refine (start s1 s2 s3 s4 n).trans ?_
  show _ = some [D.s (.sc (.int .i64 (classV (s1, s2, s3, s4) n)))]
  unfold classV
  by_cases h1 : n = 0
  · rw [bE_pos h1, if_pos h1]
  · rw [bE_neg h1, if_neg h1, gP h]
    by_cases h2 : n < BHidden.hidV (s1, s2, s3, s4)
    · rw [bD_pos h2, if_pos h2]
    · rw [bD_neg h2, if_neg h2, gP h]
      by_cases h3 : n < BInf.infV (s1, s2, s3, s4)
      · rw [bD_pos h3, if_pos h3]
      · rw [bD_neg h3, if_neg h3, gP h]
        by_cases h4 : n = BInf.infV (s1, s2, s3, s4)
        · rw [bE_pos h4, if_pos h4]
        · rw [bE_neg h4, if_neg h4]

noncomputable def orc : Orc := orc2 (pG (.pair (sN .i64) (.pair (sN .i64) (.pair (sN .i64) (sN .u64))))) (pN .u64) sp
theorem fnok : FnOk Tryz.prog E 170 Tryz.f170 cod := fnOk ty_ok mixed (callsOk_of _ rfl (orcs_cons BHidden.ok (orcs_cons BInf.ok orcs_nil)) (ext_ok)) Tryz.func170 rfl rfl rfl
theorem ok : OrcOk Tryz.prog base.glob 170 orc := fnok.ok2 rfl spec
end BClass
end Go.Proofs.YtknafopmgaolmaaGreatDoor.W

/- gnomon/binary.ClassOf -/
namespace Go.Proofs.YtknafopmgaolmaaGreatDoor.W
open Go Go.Proofs.YtknafopmgaolmaaGreatDoor.AI Go.Proofs.YtknafopmgaolmaaGreatDoor.M
namespace BClassOf
noncomputable def E : Env := { ({ base with C := callsOf [(155, BTake.orc), (170, BClass.orc)] }) with nt := 24, own := [13, 23], keep := fun k => (tlook [] k).getD [], cut := tlook [] }
noncomputable def cod : Code := (Go.Proofs.Tryz.f112.body).getD .skip
theorem nok : namesOk E cod = true := by kernel_rfl
theorem start (a : Int) (b : Int) : evalFn E Go.Proofs.Tryz.f112 cod [D.s (S.sc (Value.int IntKind.i64 a)), D.s (S.sc (Value.int IntKind.u64 b))] = gif ((a = (32 : Int) ∨ a = (64 : Int)) ∧ (0 : Int) ≤ b ∧ b < (18446744073709551616 : Int)) (bcase ((bif BTake.patB a b then (0 : Int) else (2 : Int)) != (0 : Int)) (some [D.s (S.sc (Value.int IntKind.i64 (0 : Int))), D.s (S.sc (Value.int IntKind.i64 (bif BTake.patB a b then (0 : Int) else (2 : Int))))]) (gif (BShape.Two ((BShape.shp a).fst, (BShape.shp a).snd.fst, (BShape.shp a).snd.snd.fst, (BShape.shp a).snd.snd.snd)) (some [D.s (S.sc (Value.int IntKind.i64 (BClass.classV ((BShape.shp a).fst, (BShape.shp a).snd.fst, (BShape.shp a).snd.snd.fst, (BShape.shp a).snd.snd.snd) (bif BTake.patB a b then b % BSign.signV (BShape.shp a) else (0 : Int))))), D.s (S.sc (Value.int IntKind.i64 (0 : Int)))]))) := (evalFn_J rfl nok _).trans (by kernel_rfl)
-- stuck: 0
end BClassOf
namespace BClassOf
noncomputable def sp (f b : Int) : Prop × List D := ((f = 32 ∨ f = 64) ∧ 0 ≤ b ∧ b < 18446744073709551616, [.s (.sc (.int .i64 (bif BTake.patB f b then BClass.classV (BShape.shp f) (b % BSign.signV (BShape.shp f)) else 0))), .s (.sc (.int .i64 (bif BTake.patB f b then 0 else 2)))])
theorem spec (f b : Int) (h : (sp f b).1) : evalFn E Tryz.f112 cod [(pN .i64).put f, (pN .u64).put b] = some (sp f b).2 := by
  refine (start f b).trans ((gP h).trans ?_)
  unfold sp
  try dsimp only
  have ht : BShape.Two (BShape.shp f) := by
    rcases h.1 with rfl | rfl
    · exact .inl rfl
    · exact .inr rfl
  cases hp : BTake.patB f b with
  | false => rfl
  | true =>
    try dsimp only [cond_true]
    rw [bN_neg rfl, gP ht]

noncomputable def orc : Orc := orc2 (pN .i64) (pN .u64) sp
theorem fnok : FnOk Tryz.prog E 112 Tryz.f112 cod := fnOk ty_ok mixed (callsOk_of _ rfl (orcs_cons BTake.ok (orcs_cons BClass.ok orcs_nil)) (ext_ok)) Tryz.func112 rfl rfl rfl
theorem ok : OrcOk Tryz.prog base.glob 112 orc := fnok.ok2 rfl spec
end BClassOf
end Go.Proofs.YtknafopmgaolmaaGreatDoor.W

/- gnomon/turn.infinity -/
namespace Go.Proofs.YtknafopmgaolmaaGreatDoor.W
open Go Go.Proofs.YtknafopmgaolmaaGreatDoor.AI Go.Proofs.YtknafopmgaolmaaGreatDoor.M
namespace UInfinity
noncomputable def E : Env := { (base) with nt := 5, own := [], keep := fun k => (tlook [] k).getD [], cut := tlook [] }
noncomputable def cod : Code := (Go.Proofs.Tryz.f172.body).getD .skip
theorem nok : namesOk E cod = true := by kernel_rfl
theorem start (a : Int) : evalFn E Go.Proofs.Tryz.f172 cod [D.s (S.sc (Value.int IntKind.i64 a))] = bcase (a == (32 : Int)) (some [D.s (S.sc (Value.int IntKind.u64 (2139095040 : Int)))]) (some [D.s (S.sc (Value.int IntKind.u64 (9218868437227405312 : Int)))]) := (evalFn_J rfl nok _).trans (by kernel_rfl)
-- stuck: 0
end UInfinity
namespace UInfinity
noncomputable def sp (f : Int) : Prop × List D := (f = 32 ∨ f = 64, [.s (.sc (.int .u64 (BInf.infV (BShape.shp f))))])
theorem spec (f : Int) (h : (sp f).1) : evalFn E Tryz.f172 cod [(pN .i64).put f] = some (sp f).2 := by
  refine (start f).trans ?_
  rcases h with rfl | rfl <;> rfl

noncomputable def orc : Orc := orc1 (pN .i64) sp
theorem fnok : FnOk Tryz.prog E 172 Tryz.f172 cod := fnOk ty_ok mixed (callsOk_of _ rfl orcs_nil (ext_ok)) Tryz.func172 rfl rfl rfl
theorem ok : OrcOk Tryz.prog base.glob 172 orc := fnok.ok1 rfl spec
end UInfinity
end Go.Proofs.YtknafopmgaolmaaGreatDoor.W

/- (gnomon/binary.shape).made -/
namespace Go.Proofs.YtknafopmgaolmaaGreatDoor.W
open Go Go.Proofs.YtknafopmgaolmaaGreatDoor.AI Go.Proofs.YtknafopmgaolmaaGreatDoor.M
namespace BMade
noncomputable def E : Env := { ({ base with C := callsOf [(205, BSign.orc)] }) with nt := 13, own := [], keep := fun k => (tlook [] k).getD [], cut := tlook [] }
noncomputable def cod : Code := (Go.Proofs.Tryz.f174.body).getD .skip
theorem nok : namesOk E cod = true := by kernel_rfl
theorem start (a1 : Int) (a2 : Int) (a3 : Int) (a4 : Int) (b : Bool) (c : Int) : evalFn E Go.Proofs.Tryz.f174 cod [D.agg [S.sc (Value.int IntKind.i64 a1), S.sc (Value.int IntKind.i64 a2), S.sc (Value.int IntKind.i64 a3), S.sc (Value.int IntKind.u64 a4)], D.s (S.sc (Value.bool b)), D.s (S.sc (Value.int IntKind.u64 c))] = bcase b (gif (BShape.Two (a1, a2, a3, a4)) (some [D.s (S.sc (Value.int IntKind.u64 (bitsI BinOp.or IntKind.u64 c (BSign.signV (a1, a2, a3, a4)))))])) (some [D.s (S.sc (Value.int IntKind.u64 c))]) := (evalFn_J rfl nok _).trans (by kernel_rfl)
-- stuck: 0
end BMade
namespace BMade
noncomputable def sp (s : Int × Int × Int × Int) (b : Bool) (c : Int) : Prop × List D := (BShape.Two s, [.s (.sc (.int .u64 (bif b then bitsI .or .u64 c (BSign.signV s) else c)))])
theorem spec (s : Int × Int × Int × Int) (b : Bool) (c : Int) (h : (sp s b c).1) : evalFn E Tryz.f174 cod [(pG (.pair (sN .i64) (.pair (sN .i64) (.pair (sN .i64) (sN .u64))))).put s, pB.put b, (pN .u64).put c] = some (sp s b c).2 := by
  refine (start s.1 s.2.1 s.2.2.1 s.2.2.2 b c).trans ?_
  cases b with
  | true => exact gP h
  | false => rfl

noncomputable def orc : Orc := orc3 (pG (.pair (sN .i64) (.pair (sN .i64) (.pair (sN .i64) (sN .u64))))) pB (pN .u64) sp
theorem fnok : FnOk Tryz.prog E 174 Tryz.f174 cod := fnOk ty_ok mixed (callsOk_of _ rfl (orcs_cons BSign.ok orcs_nil) (ext_ok)) Tryz.func174 rfl rfl rfl
theorem ok : OrcOk Tryz.prog base.glob 174 orc := fnok.ok3 rfl spec
end BMade
end Go.Proofs.YtknafopmgaolmaaGreatDoor.W

/- gnomon/binary.Join -/
namespace Go.Proofs.YtknafopmgaolmaaGreatDoor.W
open Go Go.Proofs.YtknafopmgaolmaaGreatDoor.AI Go.Proofs.YtknafopmgaolmaaGreatDoor.M
namespace BJoin
noncomputable def E : Env := { ({ base with C := callsOf [(114, BShape.orc), (174, BMade.orc), (203, Tz64.orc), (209, Len64.orc), (157, BHidden.orc), (156, BInf.orc)] }) with nt := 102, own := [25, 80, 101], keep := fun k => (tlook [] k).getD [], cut := tlook [(8, [1, 2, 3, 10]), (13, [1, 2, 3, 10, 12])] }
noncomputable def cod : Code := (Go.Proofs.Tryz.f173.body).getD .skip
theorem nok : namesOk E cod = true := by kernel_rfl
noncomputable def J8 (b0 : Bool) (x1 : Int) (x2 : Int) (x3 : Int) (x4 : Int) (x5 : Int) (x6 : Int) : Option (List D) := ctO E Go.Proofs.Tryz.f173 cod 8 [(A.v (V.one (L.s (S.sc (Value.bool b0)))), none), (A.v (V.one (L.s (S.sc (Value.int IntKind.u64 x1)))), none), (A.v (V.one (L.s (S.sc (Value.int IntKind.i64 x2)))), none), (A.v (V.one (L.ptr (3 : Nat) (0 : Nat))), some { e := (131 : Nat), cont := Cont.cells [S.sc (Value.int IntKind.i64 x3), S.sc (Value.int IntKind.i64 x4), S.sc (Value.int IntKind.i64 x5), S.sc (Value.int IntKind.u64 x6)] })]
noncomputable def J13 (b0 : Bool) (x1 : Int) (x2 : Int) (x3 : Int) (x4 : Int) (x5 : Int) (x6 : Int) (x7 : Int) : Option (List D) := ctO E Go.Proofs.Tryz.f173 cod 13 [(A.v (V.one (L.s (S.sc (Value.bool b0)))), none), (A.v (V.one (L.s (S.sc (Value.int IntKind.u64 x1)))), none), (A.v (V.one (L.s (S.sc (Value.int IntKind.i64 x2)))), none), (A.v (V.one (L.ptr (3 : Nat) (0 : Nat))), some { e := (131 : Nat), cont := Cont.cells [S.sc (Value.int IntKind.i64 x3), S.sc (Value.int IntKind.i64 x4), S.sc (Value.int IntKind.i64 x5), S.sc (Value.int IntKind.u64 x6)] }), (A.v (V.one (L.s (S.sc (Value.int IntKind.i64 x7)))), none)]
theorem start (a : Int) (b : Bool) (c : Int) (d : Int) : evalFn E Go.Proofs.Tryz.f173 cod [D.s (S.sc (Value.int IntKind.i64 a)), D.s (S.sc (Value.bool b)), D.s (S.sc (Value.int IntKind.u64 c)), D.s (S.sc (Value.int IntKind.i64 d))] = gif True (bcase ((BShape.shp a).fst == (0 : Int) && ((BShape.shp a).snd.fst == (0 : Int) && ((BShape.shp a).snd.snd.fst == (0 : Int) && ((BShape.shp a).snd.snd.snd == (0 : Int) && true)))) (some [D.s (S.sc (Value.int IntKind.u64 (0 : Int))), D.s (S.sc (Value.int IntKind.i64 (1 : Int)))]) (bcase (c == (0 : Int)) (gif (BShape.Two ((BShape.shp a).fst, (BShape.shp a).snd.fst, (BShape.shp a).snd.snd.fst, (BShape.shp a).snd.snd.snd)) (some [D.s (S.sc (Value.int IntKind.u64 (bif b then bitsI BinOp.or IntKind.u64 (0 : Int) (BSign.signV ((BShape.shp a).fst, (BShape.shp a).snd.fst, (BShape.shp a).snd.snd.fst, (BShape.shp a).snd.snd.snd)) else (0 : Int)))), D.s (S.sc (Value.int IntKind.i64 (0 : Int)))])) (bcase (decide (d < IntKind.i64.wrap ((BShape.shp a).snd.snd.fst - (64 : Int)))) (some [D.s (S.sc (Value.int IntKind.u64 (0 : Int))), D.s (S.sc (Value.int IntKind.i64 (5 : Int)))]) (bcase (decide (IntKind.i64.wrap ((BShape.shp a).snd.snd.fst + (4096 : Int)) < d)) (some [D.s (S.sc (Value.int IntKind.u64 (0 : Int))), D.s (S.sc (Value.int IntKind.i64 (5 : Int)))]) (BJoin.J8 b c d (BShape.shp a).fst (BShape.shp a).snd.fst (BShape.shp a).snd.snd.fst (BShape.shp a).snd.snd.snd))))) := (evalFn_J rfl nok _).trans (by kernel_rfl)
theorem J8_eq (b0 : Bool) (x1 : Int) (x2 : Int) (x3 : Int) (x4 : Int) (x5 : Int) (x6 : Int) : J8 b0 x1 x2 x3 x4 x5 x6 = gif ((0 : Int) ≤ x1 ∧ x1 < (18446744073709551616 : Int)) (if (if x1 = (0 : Int) then (64 : Int) else (↑(tz x1.toNat) : Int)) < (0 : Int) then none else gif ((0 : Int) ≤ x1 / (↑((2 : Nat) ^ min (if x1 = (0 : Int) then (64 : Int) else (↑(tz x1.toNat) : Int)).toNat (64 : Nat)) : Int) ∧ x1 / (↑((2 : Nat) ^ min (if x1 = (0 : Int) then (64 : Int) else (↑(tz x1.toNat) : Int)).toNat (64 : Nat)) : Int) < (18446744073709551616 : Int)) (bcase (decide (x4 < (↑(bl (x1 / (↑((2 : Nat) ^ min (if x1 = (0 : Int) then (64 : Int) else (↑(tz x1.toNat) : Int)).toNat (64 : Nat)) : Int)).toNat) : Int))) (some [D.s (S.sc (Value.int IntKind.u64 (0 : Int))), D.s (S.sc (Value.int IntKind.i64 (5 : Int)))]) (bcase (decide (IntKind.i64.wrap (x2 + if x1 = (0 : Int) then (64 : Int) else (↑(tz x1.toNat) : Int)) < x5)) (some [D.s (S.sc (Value.int IntKind.u64 (0 : Int))), D.s (S.sc (Value.int IntKind.i64 (5 : Int)))]) (BJoin.J13 b0 (x1 / (↑((2 : Nat) ^ min (if x1 = (0 : Int) then (64 : Int) else (↑(tz x1.toNat) : Int)).toNat (64 : Nat)) : Int)) (IntKind.i64.wrap (x2 + if x1 = (0 : Int) then (64 : Int) else (↑(tz x1.toNat) : Int))) x3 x4 x5 x6 (↑(bl (x1 / (↑((2 : Nat) ^ min (if x1 = (0 : Int) then (64 : Int) else (↑(tz x1.toNat) : Int)).toNat (64 : Nat)) : Int)).toNat) : Int))))) := (cutAt_J rfl nok 8 _).trans (by kernel_rfl)
theorem J13_eq (b0 : Bool) (x1 : Int) (x2 : Int) (x3 : Int) (x4 : Int) (x5 : Int) (x6 : Int) (x7 : Int) : J13 b0 x1 x2 x3 x4 x5 x6 x7 = if (if IntKind.i64.wrap (x2 - x5) < IntKind.i64.wrap (x4 - x7) then IntKind.i64.wrap (x2 - x5) else IntKind.i64.wrap (x4 - x7)) < (0 : Int) then none else gif (BShape.Two (x3, x4, x5, x6)) (bcase (decide (IntKind.u64.wrap (x1 * (↑((2 : Nat) ^ min (if IntKind.i64.wrap (x2 - x5) < IntKind.i64.wrap (x4 - x7) then IntKind.i64.wrap (x2 - x5) else IntKind.i64.wrap (x4 - x7)).toNat (64 : Nat)) : Int)) < BHidden.hidV (x3, x4, x5, x6))) (gif (BShape.Two (x3, x4, x5, x6)) (some [D.s (S.sc (Value.int IntKind.u64 (bif b0 then bitsI BinOp.or IntKind.u64 (IntKind.u64.wrap (x1 * (↑((2 : Nat) ^ min (if IntKind.i64.wrap (x2 - x5) < IntKind.i64.wrap (x4 - x7) then IntKind.i64.wrap (x2 - x5) else IntKind.i64.wrap (x4 - x7)).toNat (64 : Nat)) : Int))) (BSign.signV (x3, x4, x5, x6)) else IntKind.u64.wrap (x1 * (↑((2 : Nat) ^ min (if IntKind.i64.wrap (x2 - x5) < IntKind.i64.wrap (x4 - x7) then IntKind.i64.wrap (x2 - x5) else IntKind.i64.wrap (x4 - x7)).toNat (64 : Nat)) : Int))))), D.s (S.sc (Value.int IntKind.i64 (0 : Int)))])) (gif (BShape.Two (x3, x4, x5, x6)) (gif (BShape.Two (x3, x4, x5, x6)) (bcase (decide (BInf.infV (x3, x4, x5, x6) ≤ IntKind.u64.wrap (IntKind.u64.wrap (IntKind.u64.wrap (IntKind.u64.wrap (IntKind.i64.wrap (IntKind.i64.wrap (IntKind.i64.wrap (x2 - if IntKind.i64.wrap (x2 - x5) < IntKind.i64.wrap (x4 - x7) then IntKind.i64.wrap (x2 - x5) else IntKind.i64.wrap (x4 - x7)) - x5) + (1 : Int))) - (1 : Int)) * BHidden.hidV (x3, x4, x5, x6)) + IntKind.u64.wrap (x1 * (↑((2 : Nat) ^ min (if IntKind.i64.wrap (x2 - x5) < IntKind.i64.wrap (x4 - x7) then IntKind.i64.wrap (x2 - x5) else IntKind.i64.wrap (x4 - x7)).toNat (64 : Nat)) : Int))))) (some [D.s (S.sc (Value.int IntKind.u64 (0 : Int))), D.s (S.sc (Value.int IntKind.i64 (5 : Int)))]) (gif (BShape.Two (x3, x4, x5, x6)) (some [D.s (S.sc (Value.int IntKind.u64 (bif b0 then bitsI BinOp.or IntKind.u64 (IntKind.u64.wrap (IntKind.u64.wrap (IntKind.u64.wrap (IntKind.u64.wrap (IntKind.i64.wrap (IntKind.i64.wrap (IntKind.i64.wrap (x2 - if IntKind.i64.wrap (x2 - x5) < IntKind.i64.wrap (x4 - x7) then IntKind.i64.wrap (x2 - x5) else IntKind.i64.wrap (x4 - x7)) - x5) + (1 : Int))) - (1 : Int)) * BHidden.hidV (x3, x4, x5, x6)) + IntKind.u64.wrap (x1 * (↑((2 : Nat) ^ min (if IntKind.i64.wrap (x2 - x5) < IntKind.i64.wrap (x4 - x7) then IntKind.i64.wrap (x2 - x5) else IntKind.i64.wrap (x4 - x7)).toNat (64 : Nat)) : Int)))) (BSign.signV (x3, x4, x5, x6)) else IntKind.u64.wrap (IntKind.u64.wrap (IntKind.u64.wrap (IntKind.u64.wrap (IntKind.i64.wrap (IntKind.i64.wrap (IntKind.i64.wrap (x2 - if IntKind.i64.wrap (x2 - x5) < IntKind.i64.wrap (x4 - x7) then IntKind.i64.wrap (x2 - x5) else IntKind.i64.wrap (x4 - x7)) - x5) + (1 : Int))) - (1 : Int)) * BHidden.hidV (x3, x4, x5, x6)) + IntKind.u64.wrap (x1 * (↑((2 : Nat) ^ min (if IntKind.i64.wrap (x2 - x5) < IntKind.i64.wrap (x4 - x7) then IntKind.i64.wrap (x2 - x5) else IntKind.i64.wrap (x4 - x7)).toNat (64 : Nat)) : Int)))))), D.s (S.sc (Value.int IntKind.i64 (0 : Int)))])))))) := (cutAt_J rfl nok 13 _).trans (by kernel_rfl)
-- stuck: 0
end BJoin
namespace BJoin
/-- A size with its sign. -/
def sgnd (s : Int × Int × Int × Int) (b : Bool) (c : Int) : Int := bif b then c + BSign.signV s else c
/-- How far an odd number is moved up. -/
def upJ (s : Int × Int × Int × Int) (m : Nat) (e : Int) : Nat := (if e - s.2.2.1 < s.2.1 - ((bl m : Nat) : Int) then e - s.2.2.1 else s.2.1 - ((bl m : Nat) : Int)).toNat
def sizeJ (s : Int × Int × Int × Int) (m : Nat) (e : Int) : Option Int :=
  if ((m * 2 ^ upJ s m e : Nat) : Int) < BHidden.hidV s then some ((m * 2 ^ upJ s m e : Nat) : Int)
  else if BInf.infV s ≤ (e - (upJ s m e : Nat) - s.2.2.1) * BHidden.hidV s + ((m * 2 ^ upJ s m e : Nat) : Int) then none
  else some ((e - (upJ s m e : Nat) - s.2.2.1) * BHidden.hidV s + ((m * 2 ^ upJ s m e : Nat) : Int))
/-- The size of the pattern of just m * 2^e, where there is one. -/
def joinS (s : Int × Int × Int × Int) (m : Nat) (e : Int) : Option Int :=
  if e < s.2.2.1 - 64 ∨ s.2.2.1 + 4096 < e then none
  else if s.2.1 < ((bl (m / 2 ^ tz m) : Nat) : Int) ∨ e + ((tz m : Nat) : Int) < s.2.2.1 then none
  else sizeJ s (m / 2 ^ tz m) (e + ((tz m : Nat) : Int))
def valJ (s : Int × Int × Int × Int) (b : Bool) (o : Option Int) : Int := match o with
  | some c => sgnd s b c
  | none => 0
def errJ (o : Option Int) : Int := match o with
  | some _ => 0
  | none => 5
/-- A number joined, and its error. -/
def joinO (s : Int × Int × Int × Int) (m e : Int) : Option Int := if m = 0 then some 0 else joinS s m.toNat e
def resJ (s : Int × Int × Int × Int) (b : Bool) (o : Option Int) : List D := [.s (.sc (.int .u64 (valJ s b o))), .s (.sc (.int .i64 (errJ o)))]
theorem or_sign {s : Int × Int × Int × Int} (hs : BShape.Two s) {b : Bool} {c : Int} (h0 : 0 ≤ c) (h1 : c < BSign.signV s) : (bif b then bitsI .or .u64 c (BSign.signV s) else c) = sgnd s b c := by
  unfold sgnd
  cases b with
  | false => rfl
  | true =>
    try dsimp only [cond_true]
    obtain ⟨n, rfl⟩ := Int.eq_ofNat_of_zero_le h0
    rcases hs with rfl | rfl
    · rw [show BSign.signV (32, 24, -149, 2143289345) = 2147483648 from rfl] at *
      rw [or64 (by omega) (by omega) (by omega) (by omega)]
      have := or_low (c := n) (n := 1) (k := 31) (by omega)
      rw [show (2147483648 : Int).toNat = 2 ^ 31 * 1 from rfl, Int.toNat_natCast, this]
      omega
    · rw [show BSign.signV (64, 53, -1074, 9221120237041090561) = 9223372036854775808 from rfl] at *
      rw [or64 (by omega) (by omega) (by omega) (by omega)]
      have := or_low (c := n) (n := 1) (k := 63) (by omega)
      rw [show (9223372036854775808 : Int).toNat = 2 ^ 63 * 1 from rfl, Int.toNat_natCast, this]
      omega
theorem j13 {s : Int × Int × Int × Int} (hs : BShape.Two s) (b : Bool) (m : Nat) (e : Int) (h1 : ((bl m : Nat) : Int) ≤ s.2.1) (h2 : s.2.2.1 ≤ e) (h3 : e ≤ 3000) (hm : m ≠ 0) :
    J13 b (m : Int) e s.1 s.2.1 s.2.2.1 s.2.2.2 ((bl m : Nat) : Int) = some (resJ s b (sizeJ s m e)) := by
  have hb := bl_pos hm
  have hlt : m * 2 ^ upJ s m e < 2 ^ (bl m + upJ s m e) := by
    rw [Nat.pow_add]
    exact Nat.mul_lt_mul_of_lt_of_le (lt_bl m) (Nat.le_refl _) (Nat.pow_pos (by decide))
  have hup : ((bl m + upJ s m e : Nat) : Int) ≤ s.2.1 := by
    unfold upJ
    split <;> omega
  have hu0 : ((upJ s m e : Nat) : Int) ≤ e - s.2.2.1 := by
    unfold upJ
    split <;> omega
  rw [J13_eq]
  have hul : ∀ k : Nat, s.2.1 ≤ (k : Int) → m * 2 ^ upJ s m e < 2 ^ k := fun k hk => Nat.lt_of_lt_of_le hlt (Nat.pow_le_pow_right (by decide) (by omega))
  have low : -1074 ≤ s.2.2.1 ∧ s.2.2.1 ≤ 0 ∧ s.2.1 ≤ 53 := by rcases hs with rfl | rfl <;> (dsimp only; omega)
  rw [wrap_i64 (n := e - s.2.2.1) (by omega) (by omega), wrap_i64 (n := s.2.1 - ((bl m : Nat) : Int)) (by omega) (by omega)]
  have hue : (if e - s.2.2.1 < s.2.1 - ((bl m : Nat) : Int) then e - s.2.2.1 else s.2.1 - ((bl m : Nat) : Int)) = ((upJ s m e : Nat) : Int) := by
    unfold upJ
    split <;> omega
  rw [hue, if_neg (by omega), Int.toNat_natCast, show min (upJ s m e) 64 = upJ s m e by omega, ← Int.natCast_mul, gP hs]
  unfold sizeJ
  generalize upJ s m e = u at *
  generalize m * 2 ^ u = M at *
  rcases hs with rfl | rfl
  · have hM := hul 24 (by decide)
    simp only [show BHidden.hidV (32, 24, -149, 2143289345) = 8388608 from rfl, show BInf.infV (32, 24, -149, 2143289345) = 2139095040 from rfl] at *
    rw [wrap_u64 (n := (M : Int)) (by omega) (by omega), wrap_i64 (n := e - (u : Int)) (by omega) (by omega), wrap_i64 (n := e - (u : Int) - -149) (by omega) (by omega), wrap_i64 (n := e - (u : Int) - -149 + 1) (by omega) (by omega), wrap_u64 (n := e - (u : Int) - -149 + 1) (by omega) (by omega), wrap_u64 (n := e - (u : Int) - -149 + 1 - 1) (by omega) (by omega), show e - (u : Int) - -149 + 1 - 1 = e - (u : Int) - -149 by omega, wrap_u64 (n := (e - (u : Int) - -149) * 8388608) (by omega) (by omega), wrap_u64 (n := (e - (u : Int) - -149) * 8388608 + (M : Int)) (by omega) (by omega)]
    by_cases c1 : (M : Int) < 8388608
    · rw [bD_pos c1, if_pos c1, gP BShape.two32, or_sign BShape.two32 (by omega) (by show (M : Int) < 2147483648; omega)]
      rfl
    · rw [bD_neg c1, if_neg c1, gP BShape.two32, gP BShape.two32]
      by_cases c2 : 2139095040 ≤ (e - (u : Int) - -149) * 8388608 + (M : Int)
      · rw [bD_pos c2, if_pos c2]
        rfl
      · rw [bD_neg c2, if_neg c2, gP BShape.two32, or_sign BShape.two32 (by omega) (by show _ < 2147483648; omega)]
        rfl
  · have hM := hul 53 (by decide)
    simp only [show BHidden.hidV (64, 53, -1074, 9221120237041090561) = 4503599627370496 from rfl, show BInf.infV (64, 53, -1074, 9221120237041090561) = 9218868437227405312 from rfl] at *
    by_cases c1 : (M : Int) < 4503599627370496
    · rw [wrap_u64 (n := (M : Int)) (by omega) (by omega), bD_pos c1, if_pos c1, gP BShape.two64, or_sign BShape.two64 (by omega) (by show (M : Int) < 9223372036854775808; omega)]
      rfl
    · rw [wrap_u64 (n := (M : Int)) (by omega) (by omega), wrap_i64 (n := e - (u : Int)) (by omega) (by omega), wrap_i64 (n := e - (u : Int) - -1074) (by omega) (by omega), wrap_i64 (n := e - (u : Int) - -1074 + 1) (by omega) (by omega), wrap_u64 (n := e - (u : Int) - -1074 + 1) (by omega) (by omega), wrap_u64 (n := e - (u : Int) - -1074 + 1 - 1) (by omega) (by omega), show e - (u : Int) - -1074 + 1 - 1 = e - (u : Int) - -1074 by omega]
      rw [wrap_u64 (n := (e - (u : Int) - -1074) * 4503599627370496) (by omega) (by omega), wrap_u64 (n := (e - (u : Int) - -1074) * 4503599627370496 + (M : Int)) (by omega) (by omega), bD_neg c1, if_neg c1, gP BShape.two64, gP BShape.two64]
      by_cases c2 : 9218868437227405312 ≤ (e - (u : Int) - -1074) * 4503599627370496 + (M : Int)
      · rw [bD_pos c2, if_pos c2]
        rfl
      · rw [bD_neg c2, if_neg c2, gP BShape.two64, or_sign BShape.two64 (by omega) (by show _ < 9223372036854775808; omega)]
        rfl
noncomputable def sp (f : Int) (b : Bool) (m e : Int) : Prop × List D := ((f = 32 ∨ f = 64) ∧ (0 ≤ m ∧ m < 18446744073709551616) ∧ -4000 ≤ e ∧ e ≤ 2900, [.s (.sc (.int .u64 (valJ (BShape.shp f) b (joinO (BShape.shp f) m e)))), .s (.sc (.int .i64 (errJ (joinO (BShape.shp f) m e))))])
theorem spec (f : Int) (b : Bool) (m e : Int) (h : (sp f b m e).1) : evalFn E Tryz.f173 cod [(pN .i64).put f, pB.put b, (pN .u64).put m, (pN .i64).put e] = some (sp f b m e).2 := by
  obtain ⟨hf, ⟨hm0, hm1⟩, he0, he1⟩ := h
  refine (start f b m e).trans ((gP trivial).trans ?_)
  show _ = some (resJ (BShape.shp f) b (joinO (BShape.shp f) m e))
  unfold joinO
  have hs : BShape.Two (BShape.shp f) := by
    rcases hf with rfl | rfl
    · exact .inl rfl
    · exact .inr rfl
  generalize BShape.shp f = s at *
  obtain ⟨n, rfl⟩ := Int.eq_ofNat_of_zero_le hm0
  have low : -1074 ≤ s.2.2.1 ∧ s.2.2.1 ≤ 0 ∧ s.2.1 ≤ 53 := by rcases hs with rfl | rfl <;> (dsimp only; omega)
  have hne : (s.1 == 0 && (s.2.1 == 0 && (s.2.2.1 == 0 && (s.2.2.2 == 0 && true)))) = false := by rcases hs with rfl | rfl <;> rfl
  have hz0 : 0 < BSign.signV s := by unfold BSign.signV; split <;> omega
  rw [bB_neg hne]
  by_cases h0 : (n : Int) = 0
  · rw [bE_pos h0, if_pos h0]
    refine (gP hs).trans ?_
    rw [or_sign hs (by omega) hz0]
    rfl
  · have hn0 : n ≠ 0 := by omega
    have ht := tz_lt hn0
    have ht2 : tz n < 64 := (Nat.pow_lt_pow_iff_right (by decide : 1 < 2)).1 (Nat.lt_of_le_of_lt ht (by omega))
    rw [bE_neg h0, if_neg h0, wrap_i64 (n := s.2.2.1 - 64) (by omega) (by omega), wrap_i64 (n := s.2.2.1 + 4096) (by omega) (by omega)]
    unfold joinS
    by_cases c1 : e < s.2.2.1 - 64
    · rw [bD_pos c1, if_pos (.inl c1)]
      rfl
    · rw [bD_neg c1]
      by_cases c2 : s.2.2.1 + 4096 < e
      · rw [bD_pos c2, if_pos (.inr c2)]
        rfl
      · rw [bD_neg c2, if_neg (by omega), J8_eq, if_neg h0, Int.toNat_natCast, if_neg (by omega), gP (by omega), Int.toNat_natCast, show min (tz n) 64 = tz n by omega, ← Int.natCast_ediv, Int.toNat_natCast, wrap_i64 (n := e + ((tz n : Nat) : Int)) (by omega) (by omega)]
        have hd : n / 2 ^ tz n ≠ 0 := fun h => by have := (tz_spec n hn0).2; rw [h] at this; cases this
        have hl : n / 2 ^ tz n ≤ n := Nat.div_le_self _ _
        generalize n / 2 ^ tz n = q at *
        rw [gP (by omega)]
        by_cases c3 : s.2.1 < ((bl q : Nat) : Int)
        · rw [bD_pos c3, if_pos (.inl c3)]
          rfl
        · rw [bD_neg c3]
          by_cases c4 : e + ((tz n : Nat) : Int) < s.2.2.1
          · rw [bD_pos c4, if_pos (.inr c4)]
            rfl
          · rw [bD_neg c4, if_neg (by omega), j13 hs b _ _ (by omega) (by omega) (by omega) hd]

noncomputable def orc : Orc := orc4 (pN .i64) pB (pN .u64) (pN .i64) sp
theorem fnok : FnOk Tryz.prog E 173 Tryz.f173 cod := fnOk ty_ok mixed (callsOk_of _ rfl (orcs_cons BShape.ok (orcs_cons BMade.ok (orcs_cons Tz64.ok (orcs_cons Len64.ok (orcs_cons BHidden.ok (orcs_cons BInf.ok orcs_nil)))))) (ext_ok)) Tryz.func173 rfl rfl rfl
theorem ok : OrcOk Tryz.prog base.glob 173 orc := fnok.ok4 rfl spec
end BJoin
end Go.Proofs.YtknafopmgaolmaaGreatDoor.W

/- gnomon/turn.signed -/
namespace Go.Proofs.YtknafopmgaolmaaGreatDoor.W
open Go Go.Proofs.YtknafopmgaolmaaGreatDoor.AI Go.Proofs.YtknafopmgaolmaaGreatDoor.M
namespace USigned
noncomputable def E : Env := { (base) with nt := 14, own := [], keep := fun k => (tlook [] k).getD [], cut := tlook [] }
noncomputable def cod : Code := (Go.Proofs.Tryz.f171.body).getD .skip
theorem nok : namesOk E cod = true := by kernel_rfl
theorem start (a : Int) (b : Bool) (c : Int) : evalFn E Go.Proofs.Tryz.f171 cod [D.s (S.sc (Value.int IntKind.i64 a)), D.s (S.sc (Value.bool b)), D.s (S.sc (Value.int IntKind.u64 c))] = bcase b (if IntKind.i64.wrap (a - (1 : Int)) < (0 : Int) then none else some [D.s (S.sc (Value.int IntKind.u64 (bitsI BinOp.or IntKind.u64 c (IntKind.u64.wrap ((1 : Int) * (↑((2 : Nat) ^ min (IntKind.i64.wrap (a - (1 : Int))).toNat (64 : Nat)) : Int))))))]) (some [D.s (S.sc (Value.int IntKind.u64 c))]) := (evalFn_J rfl nok _).trans (by kernel_rfl)
-- stuck: 0
end USigned
namespace USigned
noncomputable def sp (f : Int) (b : Bool) (c : Int) : Prop × List D := ((f = 32 ∨ f = 64) ∧ 0 ≤ c ∧ c < BSign.signV (BShape.shp f), [.s (.sc (.int .u64 (BJoin.sgnd (BShape.shp f) b c)))])
theorem spec (f : Int) (b : Bool) (c : Int) (h : (sp f b c).1) : evalFn E Tryz.f171 cod [(pN .i64).put f, pB.put b, (pN .u64).put c] = some (sp f b c).2 := by
  obtain ⟨hf, h0, h1⟩ := h
  refine (start f b c).trans ?_
  have hs : BShape.Two (BShape.shp f) := BFinite.two_shp hf
  unfold sp
  try dsimp only
  rw [← BJoin.or_sign hs h0 h1]
  cases b with
  | false => rfl
  | true => rcases hf with rfl | rfl <;> rfl

noncomputable def orc : Orc := orc3 (pN .i64) pB (pN .u64) sp
theorem fnok : FnOk Tryz.prog E 171 Tryz.f171 cod := fnOk ty_ok mixed (callsOk_of _ rfl orcs_nil (ext_ok)) Tryz.func171 rfl rfl rfl
theorem ok : OrcOk Tryz.prog base.glob 171 orc := fnok.ok3 rfl spec
end USigned
end Go.Proofs.YtknafopmgaolmaaGreatDoor.W

/- gnomon/turn.pattern -/
namespace Go.Proofs.YtknafopmgaolmaaGreatDoor.W
open Go Go.Proofs.YtknafopmgaolmaaGreatDoor.AI Go.Proofs.YtknafopmgaolmaaGreatDoor.M
namespace UPattern
noncomputable def E : Env := { ({ base with C := callsOf [(172, UInfinity.orc), (171, USigned.orc), (173, BJoin.orc)] }) with nt := 27, own := [15, 23], keep := fun k => (tlook [] k).getD [], cut := tlook [] }
noncomputable def cod : Code := (Go.Proofs.Tryz.f113.body).getD .skip
theorem nok : namesOk E cod = true := by kernel_rfl
theorem start (a : Int) (b1 : Int) (b2 : Bool) : evalFn E Go.Proofs.Tryz.f113 cod [D.s (S.sc (Value.int IntKind.i64 a)), D.agg [S.sc (Value.int IntKind.i64 b1), S.sc (Value.bool b2)]] = bcase (b1 == (2 : Int)) (gif (a = (32 : Int) ∨ a = (64 : Int)) (gif ((a = (32 : Int) ∨ a = (64 : Int)) ∧ (0 : Int) ≤ BInf.infV (BShape.shp a) ∧ BInf.infV (BShape.shp a) < BSign.signV (BShape.shp a)) (some [D.s (S.sc (Value.int IntKind.u64 (BJoin.sgnd (BShape.shp a) b2 (BInf.infV (BShape.shp a)))))]))) (gif ((a = (32 : Int) ∨ a = (64 : Int)) ∧ ((0 : Int) ≤ IntKind.u64.wrap b1 ∧ IntKind.u64.wrap b1 < (18446744073709551616 : Int)) ∧ (-4000 : Int) ≤ (0 : Int) ∧ (0 : Int) ≤ (2900 : Int)) (some [D.s (S.sc (Value.int IntKind.u64 (BJoin.valJ (BShape.shp a) b2 (BJoin.joinO (BShape.shp a) (IntKind.u64.wrap b1) (0 : Int)))))])) := (evalFn_J rfl nok _).trans (by kernel_rfl)
-- stuck: 0
end UPattern
namespace UPattern
/-- The pattern of an exact value. -/
def patV (f : Int) (s : Int) (n : Bool) : Int := BJoin.sgnd (BShape.shp f) n (if s = 2 then BInf.infV (BShape.shp f) else if s = 1 then (if f = 32 then 1065353216 else 4607182418800017408) else 0)
noncomputable def sp (f : Int) (v : Int × Bool) : Prop × List D := ((f = 32 ∨ f = 64) ∧ (v.1 = 0 ∨ v.1 = 1 ∨ v.1 = 2), [.s (.sc (.int .u64 (patV f v.1 v.2)))])
theorem one_join : BJoin.joinO (BShape.shp 64) 1 0 = some 4607182418800017408 ∧ BJoin.joinO (BShape.shp 32) 1 0 = some 1065353216 := by
  have b1 : bl 1 = 1 := rfl
  have t1 : tz (1 : Int).toNat = 0 := tz_odd rfl
  unfold BJoin.joinO BJoin.joinS BJoin.sizeJ BJoin.upJ
  rw [t1]
  exact ⟨rfl, rfl⟩
theorem spec (f : Int) (v : Int × Bool) (h : (sp f v).1) : evalFn E Tryz.f113 cod [(pN .i64).put f, (pG (.pair (sN .i64) sB)).put v] = some (sp f v).2 := by
  obtain ⟨hf, hv⟩ := h
  obtain ⟨s, n⟩ := v
  refine (start f s n).trans ?_
  unfold sp patV
  try dsimp only at *
  have hi : 0 ≤ BInf.infV (BShape.shp f) ∧ BInf.infV (BShape.shp f) < BSign.signV (BShape.shp f) := by
    rcases hf with rfl | rfl
    · exact ⟨by show (0 : Int) ≤ 2139095040; omega, by show (2139095040 : Int) < 2147483648; omega⟩
    · exact ⟨by show (0 : Int) ≤ 9218868437227405312; omega, by show (9218868437227405312 : Int) < 9223372036854775808; omega⟩
  rcases hv with rfl | rfl | rfl
  · rw [bE_neg (by omega), show IntKind.u64.wrap 0 = 0 from rfl, gP ⟨hf, by omega, by omega⟩]
    rfl
  · rw [bE_neg (by omega), show IntKind.u64.wrap 1 = 1 from rfl, gP ⟨hf, by omega, by omega⟩]
    rcases hf with rfl | rfl
    · rw [one_join.2]; rfl
    · rw [one_join.1]; rfl
  · rw [bE_pos rfl, gP hf, gP ⟨hf, hi⟩]
    rfl

noncomputable def orc : Orc := orc2 (pN .i64) (pG (.pair (sN .i64) sB)) sp
theorem fnok : FnOk Tryz.prog E 113 Tryz.f113 cod := fnOk ty_ok mixed (callsOk_of _ rfl (orcs_cons UInfinity.ok (orcs_cons USigned.ok (orcs_cons BJoin.ok orcs_nil))) (ext_ok)) Tryz.func113 rfl rfl rfl
theorem ok : OrcOk Tryz.prog base.glob 113 orc := fnok.ok2 rfl spec
end UPattern
end Go.Proofs.YtknafopmgaolmaaGreatDoor.W

/- gnomon/turn.place -/
namespace Go.Proofs.YtknafopmgaolmaaGreatDoor.W
open Go Go.Proofs.YtknafopmgaolmaaGreatDoor.AI Go.Proofs.YtknafopmgaolmaaGreatDoor.M
namespace UPlace
noncomputable def E : Env := { (base) with nt := 19, own := [], keep := fun k => (tlook [] k).getD [], cut := tlook [] }
noncomputable def cod : Code := (Go.Proofs.Tryz.f148.body).getD .skip
theorem nok : namesOk E cod = true := by kernel_rfl
theorem start (a1 : Bool) (a2 : List Int) (a3 : Int) : evalFn E Go.Proofs.Tryz.f148 cod [D.agg [S.sc (Value.bool a1), S.ints IntKind.u64 a2, S.sc (Value.int IntKind.i64 a3)]] = bcase (decide ((0 : Int) < a3)) (some [D.s (S.sc (Value.int IntKind.i64 (1 : Int)))]) (bcase (a3 == (0 : Int)) (some [D.s (S.sc (Value.int IntKind.i64 (2 : Int)))]) (bcase (a3 == (-1 : Int)) (some [D.s (S.sc (Value.int IntKind.i64 (3 : Int)))]) (bcase (a3 == (-2 : Int)) (some [D.s (S.sc (Value.int IntKind.i64 (4 : Int)))]) (some [D.s (S.sc (Value.int IntKind.i64 (0 : Int)))])))) := (evalFn_J rfl nok _).trans (by kernel_rfl)
-- stuck: 0
end UPlace
namespace UPlace
/-- Where on the quarter turns a number lies, by its exponent. -/
def placeV (e : Int) : Int := if 0 < e then 1 else if e = 0 then 2 else if e = -1 then 3 else if e = -2 then 4 else 0
noncomputable def sp (x : Bool × List Int × Int) : Prop × List D := (True, [.s (.sc (.int .i64 (placeV x.2.2)))])
theorem spec (x : Bool × List Int × Int) (h : (sp x).1) : evalFn E Tryz.f148 cod [(pG (.pair sB (.pair (sI .u64) (sN .i64)))).put x] = some (sp x).2 := by
  refine (start x.1 x.2.1 x.2.2).trans ?_
  unfold sp placeV
  try dsimp only
  by_cases h1 : 0 < x.2.2
  · rw [bD_pos h1, if_pos h1]
  · rw [bD_neg h1, if_neg h1]
    by_cases h2 : x.2.2 = 0
    · rw [bE_pos h2, if_pos h2]
    · rw [bE_neg h2, if_neg h2]
      by_cases h3 : x.2.2 = -1
      · rw [bE_pos h3, if_pos h3]
      · rw [bE_neg h3, if_neg h3]
        by_cases h4 : x.2.2 = -2
        · rw [bE_pos h4, if_pos h4]
        · rw [bE_neg h4, if_neg h4]

noncomputable def orc : Orc := orc1 (pG (.pair sB (.pair (sI .u64) (sN .i64)))) sp
theorem fnok : FnOk Tryz.prog E 148 Tryz.f148 cod := fnOk ty_ok mixed (callsOk_of _ rfl orcs_nil (ext_ok)) Tryz.func148 rfl rfl rfl
theorem ok : OrcOk Tryz.prog base.glob 148 orc := fnok.ok1 rfl spec
end UPlace
end Go.Proofs.YtknafopmgaolmaaGreatDoor.W

/- gnomon/turn.exact -/
namespace Go.Proofs.YtknafopmgaolmaaGreatDoor.W
open Go Go.Proofs.YtknafopmgaolmaaGreatDoor.AI Go.Proofs.YtknafopmgaolmaaGreatDoor.M
namespace UExact0
noncomputable def E : Env := { ({ base with C := callsOf [(148, UPlace.orc), (111, UMod4.orc)] }) with nt := 97, own := [], keep := fun k => (tlook [] k).getD [], cut := tlook [] }
noncomputable def cod : Code := (Go.Proofs.Tryz.f93.body).getD .skip
theorem nok : namesOk E cod = true := by kernel_rfl
theorem start (a : Int) (b1 : Bool) (b2 : List Int) (b3 : Int) : evalFn E Go.Proofs.Tryz.f93 cod [D.s (S.sc (Value.int IntKind.i64 a)), D.agg [S.sc (Value.bool b1), S.ints IntKind.u64 b2, S.sc (Value.int IntKind.i64 b3)]] = gif True
  (gif (Wok (b1, b2))
    (bcase (a == (4 : Int))
      (bcase (UPlace.placeV b3 == (1 : Int)) (some [D.agg [S.sc (Value.int IntKind.i64 (0 : Int)), S.sc (Value.bool b1)], D.s (S.sc (Value.bool true))])
        (bcase (UPlace.placeV b3 == (2 : Int)) (some [D.agg [S.sc (Value.int IntKind.i64 (0 : Int)), S.sc (Value.bool b1)], D.s (S.sc (Value.bool true))])
          (bcase (a == (4 : Int))
            (bcase (UPlace.placeV b3 == (3 : Int)) (some [D.agg [S.sc (Value.int IntKind.i64 (1 : Int)), S.sc (Value.bool (wv (b1, b2) % (4 : Int) == (3 : Int)))], D.s (S.sc (Value.bool true))])
              (bcase (a == (5 : Int))
                (bcase (UPlace.placeV b3 == (1 : Int)) (some [D.agg [S.sc (Value.int IntKind.i64 (1 : Int)), S.sc (Value.bool (UPlace.placeV b3 == (2 : Int)))], D.s (S.sc (Value.bool true))])
                  (bcase (UPlace.placeV b3 == (2 : Int)) (some [D.agg [S.sc (Value.int IntKind.i64 (1 : Int)), S.sc (Value.bool (UPlace.placeV b3 == (2 : Int)))], D.s (S.sc (Value.bool true))])
                    (bcase (a == (5 : Int)) (bcase (UPlace.placeV b3 == (3 : Int)) (some [D.agg [S.sc (Value.int IntKind.i64 (0 : Int)), S.sc (Value.bool false)], D.s (S.sc (Value.bool true))]) (bcase (a == (6 : Int)) (bcase (UPlace.placeV b3 == (1 : Int)) (some [D.agg [S.sc (Value.int IntKind.i64 (0 : Int)), S.sc (Value.bool (b1 != (UPlace.placeV b3 == (2 : Int))))], D.s (S.sc (Value.bool true))]) (bcase (UPlace.placeV b3 == (2 : Int)) (some [D.agg [S.sc (Value.int IntKind.i64 (0 : Int)), S.sc (Value.bool (b1 != (UPlace.placeV b3 == (2 : Int))))], D.s (S.sc (Value.bool true))]) (bcase (a == (6 : Int)) (bcase (UPlace.placeV b3 == (3 : Int)) (some [D.agg [S.sc (Value.int IntKind.i64 (2 : Int)), S.sc (Value.bool (wv (b1, b2) % (4 : Int) == (3 : Int)))], D.s (S.sc (Value.bool true))]) (bcase (a == (6 : Int)) (bcase (UPlace.placeV b3 == (4 : Int)) (some [D.agg [S.sc (Value.int IntKind.i64 (1 : Int)), S.sc (Value.bool (wv (b1, b2) % (4 : Int) == (3 : Int)))], D.s (S.sc (Value.bool true))]) (some [D.agg [S.sc (Value.int IntKind.i64 (0 : Int)), S.sc (Value.bool false)], D.s (S.sc (Value.bool false))])) (some [D.agg [S.sc (Value.int IntKind.i64 (0 : Int)), S.sc (Value.bool false)], D.s (S.sc (Value.bool false))]))) (bcase (a == (6 : Int)) (bcase (UPlace.placeV b3 == (4 : Int)) (some [D.agg [S.sc (Value.int IntKind.i64 (1 : Int)), S.sc (Value.bool (wv (b1, b2) % (4 : Int) == (3 : Int)))], D.s (S.sc (Value.bool true))]) (some [D.agg [S.sc (Value.int IntKind.i64 (0 : Int)), S.sc (Value.bool false)], D.s (S.sc (Value.bool false))])) (some [D.agg [S.sc (Value.int IntKind.i64 (0 : Int)), S.sc (Value.bool false)], D.s (S.sc (Value.bool false))]))))) (bcase (a == (6 : Int)) (bcase (UPlace.placeV b3 == (3 : Int)) (some [D.agg [S.sc (Value.int IntKind.i64 (2 : Int)), S.sc (Value.bool (wv (b1, b2) % (4 : Int) == (3 : Int)))], D.s (S.sc (Value.bool true))]) (bcase (a == (6 : Int)) (bcase (UPlace.placeV b3 == (4 : Int)) (some [D.agg [S.sc (Value.int IntKind.i64 (1 : Int)), S.sc (Value.bool (wv (b1, b2) % (4 : Int) == (3 : Int)))], D.s (S.sc (Value.bool true))]) (some [D.agg [S.sc (Value.int IntKind.i64 (0 : Int)), S.sc (Value.bool false)], D.s (S.sc (Value.bool false))])) (some [D.agg [S.sc (Value.int IntKind.i64 (0 : Int)), S.sc (Value.bool false)], D.s (S.sc (Value.bool false))]))) (bcase (a == (6 : Int)) (bcase (UPlace.placeV b3 == (4 : Int)) (some [D.agg [S.sc (Value.int IntKind.i64 (1 : Int)), S.sc (Value.bool (wv (b1, b2) % (4 : Int) == (3 : Int)))], D.s (S.sc (Value.bool true))]) (some [D.agg [S.sc (Value.int IntKind.i64 (0 : Int)), S.sc (Value.bool false)], D.s (S.sc (Value.bool false))])) (some [D.agg [S.sc (Value.int IntKind.i64 (0 : Int)), S.sc (Value.bool false)], D.s (S.sc (Value.bool false))])))))
                      (bcase (a == (6 : Int)) (bcase (UPlace.placeV b3 == (1 : Int)) (some [D.agg [S.sc (Value.int IntKind.i64 (0 : Int)), S.sc (Value.bool (b1 != (UPlace.placeV b3 == (2 : Int))))], D.s (S.sc (Value.bool true))]) (bcase (UPlace.placeV b3 == (2 : Int)) (some [D.agg [S.sc (Value.int IntKind.i64 (0 : Int)), S.sc (Value.bool (b1 != (UPlace.placeV b3 == (2 : Int))))], D.s (S.sc (Value.bool true))]) (bcase (a == (6 : Int)) (bcase (UPlace.placeV b3 == (3 : Int)) (some [D.agg [S.sc (Value.int IntKind.i64 (2 : Int)), S.sc (Value.bool (wv (b1, b2) % (4 : Int) == (3 : Int)))], D.s (S.sc (Value.bool true))]) (bcase (a == (6 : Int)) (bcase (UPlace.placeV b3 == (4 : Int)) (some [D.agg [S.sc (Value.int IntKind.i64 (1 : Int)), S.sc (Value.bool (wv (b1, b2) % (4 : Int) == (3 : Int)))], D.s (S.sc (Value.bool true))]) (some [D.agg [S.sc (Value.int IntKind.i64 (0 : Int)), S.sc (Value.bool false)], D.s (S.sc (Value.bool false))])) (some [D.agg [S.sc (Value.int IntKind.i64 (0 : Int)), S.sc (Value.bool false)], D.s (S.sc (Value.bool false))]))) (bcase (a == (6 : Int)) (bcase (UPlace.placeV b3 == (4 : Int)) (some [D.agg [S.sc (Value.int IntKind.i64 (1 : Int)), S.sc (Value.bool (wv (b1, b2) % (4 : Int) == (3 : Int)))], D.s (S.sc (Value.bool true))]) (some [D.agg [S.sc (Value.int IntKind.i64 (0 : Int)), S.sc (Value.bool false)], D.s (S.sc (Value.bool false))])) (some [D.agg [S.sc (Value.int IntKind.i64 (0 : Int)), S.sc (Value.bool false)], D.s (S.sc (Value.bool false))]))))) (bcase (a == (6 : Int)) (bcase (UPlace.placeV b3 == (3 : Int)) (some [D.agg [S.sc (Value.int IntKind.i64 (2 : Int)), S.sc (Value.bool (wv (b1, b2) % (4 : Int) == (3 : Int)))], D.s (S.sc (Value.bool true))]) (bcase (a == (6 : Int)) (bcase (UPlace.placeV b3 == (4 : Int)) (some [D.agg [S.sc (Value.int IntKind.i64 (1 : Int)), S.sc (Value.bool (wv (b1, b2) % (4 : Int) == (3 : Int)))], D.s (S.sc (Value.bool true))]) (some [D.agg [S.sc (Value.int IntKind.i64 (0 : Int)), S.sc (Value.bool false)], D.s (S.sc (Value.bool false))])) (some [D.agg [S.sc (Value.int IntKind.i64 (0 : Int)), S.sc (Value.bool false)], D.s (S.sc (Value.bool false))]))) (bcase (a == (6 : Int)) (bcase (UPlace.placeV b3 == (4 : Int)) (some [D.agg [S.sc (Value.int IntKind.i64 (1 : Int)), S.sc (Value.bool (wv (b1, b2) % (4 : Int) == (3 : Int)))], D.s (S.sc (Value.bool true))]) (some [D.agg [S.sc (Value.int IntKind.i64 (0 : Int)), S.sc (Value.bool false)], D.s (S.sc (Value.bool false))])) (some [D.agg [S.sc (Value.int IntKind.i64 (0 : Int)), S.sc (Value.bool false)], D.s (S.sc (Value.bool false))])))))))
                (bcase (a == (5 : Int)) (bcase (UPlace.placeV b3 == (3 : Int)) (some [D.agg [S.sc (Value.int IntKind.i64 (0 : Int)), S.sc (Value.bool false)], D.s (S.sc (Value.bool true))]) (bcase (a == (6 : Int)) (bcase (UPlace.placeV b3 == (1 : Int)) (some [D.agg [S.sc (Value.int IntKind.i64 (0 : Int)), S.sc (Value.bool (b1 != (UPlace.placeV b3 == (2 : Int))))], D.s (S.sc (Value.bool true))]) (bcase (UPlace.placeV b3 == (2 : Int)) (some [D.agg [S.sc (Value.int IntKind.i64 (0 : Int)), S.sc (Value.bool (b1 != (UPlace.placeV b3 == (2 : Int))))], D.s (S.sc (Value.bool true))]) (bcase (a == (6 : Int)) (bcase (UPlace.placeV b3 == (3 : Int)) (some [D.agg [S.sc (Value.int IntKind.i64 (2 : Int)), S.sc (Value.bool (wv (b1, b2) % (4 : Int) == (3 : Int)))], D.s (S.sc (Value.bool true))]) (bcase (a == (6 : Int)) (bcase (UPlace.placeV b3 == (4 : Int)) (some [D.agg [S.sc (Value.int IntKind.i64 (1 : Int)), S.sc (Value.bool (wv (b1, b2) % (4 : Int) == (3 : Int)))], D.s (S.sc (Value.bool true))]) (some [D.agg [S.sc (Value.int IntKind.i64 (0 : Int)), S.sc (Value.bool false)], D.s (S.sc (Value.bool false))])) (some [D.agg [S.sc (Value.int IntKind.i64 (0 : Int)), S.sc (Value.bool false)], D.s (S.sc (Value.bool false))]))) (bcase (a == (6 : Int)) (bcase (UPlace.placeV b3 == (4 : Int)) (some [D.agg [S.sc (Value.int IntKind.i64 (1 : Int)), S.sc (Value.bool (wv (b1, b2) % (4 : Int) == (3 : Int)))], D.s (S.sc (Value.bool true))]) (some [D.agg [S.sc (Value.int IntKind.i64 (0 : Int)), S.sc (Value.bool false)], D.s (S.sc (Value.bool false))])) (some [D.agg [S.sc (Value.int IntKind.i64 (0 : Int)), S.sc (Value.bool false)], D.s (S.sc (Value.bool false))]))))) (bcase (a == (6 : Int)) (bcase (UPlace.placeV b3 == (3 : Int)) (some [D.agg [S.sc (Value.int IntKind.i64 (2 : Int)), S.sc (Value.bool (wv (b1, b2) % (4 : Int) == (3 : Int)))], D.s (S.sc (Value.bool true))]) (bcase (a == (6 : Int)) (bcase (UPlace.placeV b3 == (4 : Int)) (some [D.agg [S.sc (Value.int IntKind.i64 (1 : Int)), S.sc (Value.bool (wv (b1, b2) % (4 : Int) == (3 : Int)))], D.s (S.sc (Value.bool true))]) (some [D.agg [S.sc (Value.int IntKind.i64 (0 : Int)), S.sc (Value.bool false)], D.s (S.sc (Value.bool false))])) (some [D.agg [S.sc (Value.int IntKind.i64 (0 : Int)), S.sc (Value.bool false)], D.s (S.sc (Value.bool false))]))) (bcase (a == (6 : Int)) (bcase (UPlace.placeV b3 == (4 : Int)) (some [D.agg [S.sc (Value.int IntKind.i64 (1 : Int)), S.sc (Value.bool (wv (b1, b2) % (4 : Int) == (3 : Int)))], D.s (S.sc (Value.bool true))]) (some [D.agg [S.sc (Value.int IntKind.i64 (0 : Int)), S.sc (Value.bool false)], D.s (S.sc (Value.bool false))])) (some [D.agg [S.sc (Value.int IntKind.i64 (0 : Int)), S.sc (Value.bool false)], D.s (S.sc (Value.bool false))])))))
                  (bcase (a == (6 : Int)) (bcase (UPlace.placeV b3 == (1 : Int)) (some [D.agg [S.sc (Value.int IntKind.i64 (0 : Int)), S.sc (Value.bool (b1 != (UPlace.placeV b3 == (2 : Int))))], D.s (S.sc (Value.bool true))]) (bcase (UPlace.placeV b3 == (2 : Int)) (some [D.agg [S.sc (Value.int IntKind.i64 (0 : Int)), S.sc (Value.bool (b1 != (UPlace.placeV b3 == (2 : Int))))], D.s (S.sc (Value.bool true))]) (bcase (a == (6 : Int)) (bcase (UPlace.placeV b3 == (3 : Int)) (some [D.agg [S.sc (Value.int IntKind.i64 (2 : Int)), S.sc (Value.bool (wv (b1, b2) % (4 : Int) == (3 : Int)))], D.s (S.sc (Value.bool true))]) (bcase (a == (6 : Int)) (bcase (UPlace.placeV b3 == (4 : Int)) (some [D.agg [S.sc (Value.int IntKind.i64 (1 : Int)), S.sc (Value.bool (wv (b1, b2) % (4 : Int) == (3 : Int)))], D.s (S.sc (Value.bool true))]) (some [D.agg [S.sc (Value.int IntKind.i64 (0 : Int)), S.sc (Value.bool false)], D.s (S.sc (Value.bool false))])) (some [D.agg [S.sc (Value.int IntKind.i64 (0 : Int)), S.sc (Value.bool false)], D.s (S.sc (Value.bool false))]))) (bcase (a == (6 : Int)) (bcase (UPlace.placeV b3 == (4 : Int)) (some [D.agg [S.sc (Value.int IntKind.i64 (1 : Int)), S.sc (Value.bool (wv (b1, b2) % (4 : Int) == (3 : Int)))], D.s (S.sc (Value.bool true))]) (some [D.agg [S.sc (Value.int IntKind.i64 (0 : Int)), S.sc (Value.bool false)], D.s (S.sc (Value.bool false))])) (some [D.agg [S.sc (Value.int IntKind.i64 (0 : Int)), S.sc (Value.bool false)], D.s (S.sc (Value.bool false))]))))) (bcase (a == (6 : Int)) (bcase (UPlace.placeV b3 == (3 : Int)) (some [D.agg [S.sc (Value.int IntKind.i64 (2 : Int)), S.sc (Value.bool (wv (b1, b2) % (4 : Int) == (3 : Int)))], D.s (S.sc (Value.bool true))]) (bcase (a == (6 : Int)) (bcase (UPlace.placeV b3 == (4 : Int)) (some [D.agg [S.sc (Value.int IntKind.i64 (1 : Int)), S.sc (Value.bool (wv (b1, b2) % (4 : Int) == (3 : Int)))], D.s (S.sc (Value.bool true))]) (some [D.agg [S.sc (Value.int IntKind.i64 (0 : Int)), S.sc (Value.bool false)], D.s (S.sc (Value.bool false))])) (some [D.agg [S.sc (Value.int IntKind.i64 (0 : Int)), S.sc (Value.bool false)], D.s (S.sc (Value.bool false))]))) (bcase (a == (6 : Int)) (bcase (UPlace.placeV b3 == (4 : Int)) (some [D.agg [S.sc (Value.int IntKind.i64 (1 : Int)), S.sc (Value.bool (wv (b1, b2) % (4 : Int) == (3 : Int)))], D.s (S.sc (Value.bool true))]) (some [D.agg [S.sc (Value.int IntKind.i64 (0 : Int)), S.sc (Value.bool false)], D.s (S.sc (Value.bool false))])) (some [D.agg [S.sc (Value.int IntKind.i64 (0 : Int)), S.sc (Value.bool false)], D.s (S.sc (Value.bool false))])))))))
            (bcase (a == (5 : Int))
              (bcase (UPlace.placeV b3 == (1 : Int)) (some [D.agg [S.sc (Value.int IntKind.i64 (1 : Int)), S.sc (Value.bool (UPlace.placeV b3 == (2 : Int)))], D.s (S.sc (Value.bool true))])
                (bcase (UPlace.placeV b3 == (2 : Int)) (some [D.agg [S.sc (Value.int IntKind.i64 (1 : Int)), S.sc (Value.bool (UPlace.placeV b3 == (2 : Int)))], D.s (S.sc (Value.bool true))])
                  (bcase (a == (5 : Int)) (bcase (UPlace.placeV b3 == (3 : Int)) (some [D.agg [S.sc (Value.int IntKind.i64 (0 : Int)), S.sc (Value.bool false)], D.s (S.sc (Value.bool true))]) (bcase (a == (6 : Int)) (bcase (UPlace.placeV b3 == (1 : Int)) (some [D.agg [S.sc (Value.int IntKind.i64 (0 : Int)), S.sc (Value.bool (b1 != (UPlace.placeV b3 == (2 : Int))))], D.s (S.sc (Value.bool true))]) (bcase (UPlace.placeV b3 == (2 : Int)) (some [D.agg [S.sc (Value.int IntKind.i64 (0 : Int)), S.sc (Value.bool (b1 != (UPlace.placeV b3 == (2 : Int))))], D.s (S.sc (Value.bool true))]) (bcase (a == (6 : Int)) (bcase (UPlace.placeV b3 == (3 : Int)) (some [D.agg [S.sc (Value.int IntKind.i64 (2 : Int)), S.sc (Value.bool (wv (b1, b2) % (4 : Int) == (3 : Int)))], D.s (S.sc (Value.bool true))]) (bcase (a == (6 : Int)) (bcase (UPlace.placeV b3 == (4 : Int)) (some [D.agg [S.sc (Value.int IntKind.i64 (1 : Int)), S.sc (Value.bool (wv (b1, b2) % (4 : Int) == (3 : Int)))], D.s (S.sc (Value.bool true))]) (some [D.agg [S.sc (Value.int IntKind.i64 (0 : Int)), S.sc (Value.bool false)], D.s (S.sc (Value.bool false))])) (some [D.agg [S.sc (Value.int IntKind.i64 (0 : Int)), S.sc (Value.bool false)], D.s (S.sc (Value.bool false))]))) (bcase (a == (6 : Int)) (bcase (UPlace.placeV b3 == (4 : Int)) (some [D.agg [S.sc (Value.int IntKind.i64 (1 : Int)), S.sc (Value.bool (wv (b1, b2) % (4 : Int) == (3 : Int)))], D.s (S.sc (Value.bool true))]) (some [D.agg [S.sc (Value.int IntKind.i64 (0 : Int)), S.sc (Value.bool false)], D.s (S.sc (Value.bool false))])) (some [D.agg [S.sc (Value.int IntKind.i64 (0 : Int)), S.sc (Value.bool false)], D.s (S.sc (Value.bool false))]))))) (bcase (a == (6 : Int)) (bcase (UPlace.placeV b3 == (3 : Int)) (some [D.agg [S.sc (Value.int IntKind.i64 (2 : Int)), S.sc (Value.bool (wv (b1, b2) % (4 : Int) == (3 : Int)))], D.s (S.sc (Value.bool true))]) (bcase (a == (6 : Int)) (bcase (UPlace.placeV b3 == (4 : Int)) (some [D.agg [S.sc (Value.int IntKind.i64 (1 : Int)), S.sc (Value.bool (wv (b1, b2) % (4 : Int) == (3 : Int)))], D.s (S.sc (Value.bool true))]) (some [D.agg [S.sc (Value.int IntKind.i64 (0 : Int)), S.sc (Value.bool false)], D.s (S.sc (Value.bool false))])) (some [D.agg [S.sc (Value.int IntKind.i64 (0 : Int)), S.sc (Value.bool false)], D.s (S.sc (Value.bool false))]))) (bcase (a == (6 : Int)) (bcase (UPlace.placeV b3 == (4 : Int)) (some [D.agg [S.sc (Value.int IntKind.i64 (1 : Int)), S.sc (Value.bool (wv (b1, b2) % (4 : Int) == (3 : Int)))], D.s (S.sc (Value.bool true))]) (some [D.agg [S.sc (Value.int IntKind.i64 (0 : Int)), S.sc (Value.bool false)], D.s (S.sc (Value.bool false))])) (some [D.agg [S.sc (Value.int IntKind.i64 (0 : Int)), S.sc (Value.bool false)], D.s (S.sc (Value.bool false))])))))
                    (bcase (a == (6 : Int)) (bcase (UPlace.placeV b3 == (1 : Int)) (some [D.agg [S.sc (Value.int IntKind.i64 (0 : Int)), S.sc (Value.bool (b1 != (UPlace.placeV b3 == (2 : Int))))], D.s (S.sc (Value.bool true))]) (bcase (UPlace.placeV b3 == (2 : Int)) (some [D.agg [S.sc (Value.int IntKind.i64 (0 : Int)), S.sc (Value.bool (b1 != (UPlace.placeV b3 == (2 : Int))))], D.s (S.sc (Value.bool true))]) (bcase (a == (6 : Int)) (bcase (UPlace.placeV b3 == (3 : Int)) (some [D.agg [S.sc (Value.int IntKind.i64 (2 : Int)), S.sc (Value.bool (wv (b1, b2) % (4 : Int) == (3 : Int)))], D.s (S.sc (Value.bool true))]) (bcase (a == (6 : Int)) (bcase (UPlace.placeV b3 == (4 : Int)) (some [D.agg [S.sc (Value.int IntKind.i64 (1 : Int)), S.sc (Value.bool (wv (b1, b2) % (4 : Int) == (3 : Int)))], D.s (S.sc (Value.bool true))]) (some [D.agg [S.sc (Value.int IntKind.i64 (0 : Int)), S.sc (Value.bool false)], D.s (S.sc (Value.bool false))])) (some [D.agg [S.sc (Value.int IntKind.i64 (0 : Int)), S.sc (Value.bool false)], D.s (S.sc (Value.bool false))]))) (bcase (a == (6 : Int)) (bcase (UPlace.placeV b3 == (4 : Int)) (some [D.agg [S.sc (Value.int IntKind.i64 (1 : Int)), S.sc (Value.bool (wv (b1, b2) % (4 : Int) == (3 : Int)))], D.s (S.sc (Value.bool true))]) (some [D.agg [S.sc (Value.int IntKind.i64 (0 : Int)), S.sc (Value.bool false)], D.s (S.sc (Value.bool false))])) (some [D.agg [S.sc (Value.int IntKind.i64 (0 : Int)), S.sc (Value.bool false)], D.s (S.sc (Value.bool false))]))))) (bcase (a == (6 : Int)) (bcase (UPlace.placeV b3 == (3 : Int)) (some [D.agg [S.sc (Value.int IntKind.i64 (2 : Int)), S.sc (Value.bool (wv (b1, b2) % (4 : Int) == (3 : Int)))], D.s (S.sc (Value.bool true))]) (bcase (a == (6 : Int)) (bcase (UPlace.placeV b3 == (4 : Int)) (some [D.agg [S.sc (Value.int IntKind.i64 (1 : Int)), S.sc (Value.bool (wv (b1, b2) % (4 : Int) == (3 : Int)))], D.s (S.sc (Value.bool true))]) (some [D.agg [S.sc (Value.int IntKind.i64 (0 : Int)), S.sc (Value.bool false)], D.s (S.sc (Value.bool false))])) (some [D.agg [S.sc (Value.int IntKind.i64 (0 : Int)), S.sc (Value.bool false)], D.s (S.sc (Value.bool false))]))) (bcase (a == (6 : Int)) (bcase (UPlace.placeV b3 == (4 : Int)) (some [D.agg [S.sc (Value.int IntKind.i64 (1 : Int)), S.sc (Value.bool (wv (b1, b2) % (4 : Int) == (3 : Int)))], D.s (S.sc (Value.bool true))]) (some [D.agg [S.sc (Value.int IntKind.i64 (0 : Int)), S.sc (Value.bool false)], D.s (S.sc (Value.bool false))])) (some [D.agg [S.sc (Value.int IntKind.i64 (0 : Int)), S.sc (Value.bool false)], D.s (S.sc (Value.bool false))])))))))
              (bcase (a == (5 : Int)) (bcase (UPlace.placeV b3 == (3 : Int)) (some [D.agg [S.sc (Value.int IntKind.i64 (0 : Int)), S.sc (Value.bool false)], D.s (S.sc (Value.bool true))]) (bcase (a == (6 : Int)) (bcase (UPlace.placeV b3 == (1 : Int)) (some [D.agg [S.sc (Value.int IntKind.i64 (0 : Int)), S.sc (Value.bool (b1 != (UPlace.placeV b3 == (2 : Int))))], D.s (S.sc (Value.bool true))]) (bcase (UPlace.placeV b3 == (2 : Int)) (some [D.agg [S.sc (Value.int IntKind.i64 (0 : Int)), S.sc (Value.bool (b1 != (UPlace.placeV b3 == (2 : Int))))], D.s (S.sc (Value.bool true))]) (bcase (a == (6 : Int)) (bcase (UPlace.placeV b3 == (3 : Int)) (some [D.agg [S.sc (Value.int IntKind.i64 (2 : Int)), S.sc (Value.bool (wv (b1, b2) % (4 : Int) == (3 : Int)))], D.s (S.sc (Value.bool true))]) (bcase (a == (6 : Int)) (bcase (UPlace.placeV b3 == (4 : Int)) (some [D.agg [S.sc (Value.int IntKind.i64 (1 : Int)), S.sc (Value.bool (wv (b1, b2) % (4 : Int) == (3 : Int)))], D.s (S.sc (Value.bool true))]) (some [D.agg [S.sc (Value.int IntKind.i64 (0 : Int)), S.sc (Value.bool false)], D.s (S.sc (Value.bool false))])) (some [D.agg [S.sc (Value.int IntKind.i64 (0 : Int)), S.sc (Value.bool false)], D.s (S.sc (Value.bool false))]))) (bcase (a == (6 : Int)) (bcase (UPlace.placeV b3 == (4 : Int)) (some [D.agg [S.sc (Value.int IntKind.i64 (1 : Int)), S.sc (Value.bool (wv (b1, b2) % (4 : Int) == (3 : Int)))], D.s (S.sc (Value.bool true))]) (some [D.agg [S.sc (Value.int IntKind.i64 (0 : Int)), S.sc (Value.bool false)], D.s (S.sc (Value.bool false))])) (some [D.agg [S.sc (Value.int IntKind.i64 (0 : Int)), S.sc (Value.bool false)], D.s (S.sc (Value.bool false))]))))) (bcase (a == (6 : Int)) (bcase (UPlace.placeV b3 == (3 : Int)) (some [D.agg [S.sc (Value.int IntKind.i64 (2 : Int)), S.sc (Value.bool (wv (b1, b2) % (4 : Int) == (3 : Int)))], D.s (S.sc (Value.bool true))]) (bcase (a == (6 : Int)) (bcase (UPlace.placeV b3 == (4 : Int)) (some [D.agg [S.sc (Value.int IntKind.i64 (1 : Int)), S.sc (Value.bool (wv (b1, b2) % (4 : Int) == (3 : Int)))], D.s (S.sc (Value.bool true))]) (some [D.agg [S.sc (Value.int IntKind.i64 (0 : Int)), S.sc (Value.bool false)], D.s (S.sc (Value.bool false))])) (some [D.agg [S.sc (Value.int IntKind.i64 (0 : Int)), S.sc (Value.bool false)], D.s (S.sc (Value.bool false))]))) (bcase (a == (6 : Int)) (bcase (UPlace.placeV b3 == (4 : Int)) (some [D.agg [S.sc (Value.int IntKind.i64 (1 : Int)), S.sc (Value.bool (wv (b1, b2) % (4 : Int) == (3 : Int)))], D.s (S.sc (Value.bool true))]) (some [D.agg [S.sc (Value.int IntKind.i64 (0 : Int)), S.sc (Value.bool false)], D.s (S.sc (Value.bool false))])) (some [D.agg [S.sc (Value.int IntKind.i64 (0 : Int)), S.sc (Value.bool false)], D.s (S.sc (Value.bool false))])))))
                (bcase (a == (6 : Int)) (bcase (UPlace.placeV b3 == (1 : Int)) (some [D.agg [S.sc (Value.int IntKind.i64 (0 : Int)), S.sc (Value.bool (b1 != (UPlace.placeV b3 == (2 : Int))))], D.s (S.sc (Value.bool true))]) (bcase (UPlace.placeV b3 == (2 : Int)) (some [D.agg [S.sc (Value.int IntKind.i64 (0 : Int)), S.sc (Value.bool (b1 != (UPlace.placeV b3 == (2 : Int))))], D.s (S.sc (Value.bool true))]) (bcase (a == (6 : Int)) (bcase (UPlace.placeV b3 == (3 : Int)) (some [D.agg [S.sc (Value.int IntKind.i64 (2 : Int)), S.sc (Value.bool (wv (b1, b2) % (4 : Int) == (3 : Int)))], D.s (S.sc (Value.bool true))]) (bcase (a == (6 : Int)) (bcase (UPlace.placeV b3 == (4 : Int)) (some [D.agg [S.sc (Value.int IntKind.i64 (1 : Int)), S.sc (Value.bool (wv (b1, b2) % (4 : Int) == (3 : Int)))], D.s (S.sc (Value.bool true))]) (some [D.agg [S.sc (Value.int IntKind.i64 (0 : Int)), S.sc (Value.bool false)], D.s (S.sc (Value.bool false))])) (some [D.agg [S.sc (Value.int IntKind.i64 (0 : Int)), S.sc (Value.bool false)], D.s (S.sc (Value.bool false))]))) (bcase (a == (6 : Int)) (bcase (UPlace.placeV b3 == (4 : Int)) (some [D.agg [S.sc (Value.int IntKind.i64 (1 : Int)), S.sc (Value.bool (wv (b1, b2) % (4 : Int) == (3 : Int)))], D.s (S.sc (Value.bool true))]) (some [D.agg [S.sc (Value.int IntKind.i64 (0 : Int)), S.sc (Value.bool false)], D.s (S.sc (Value.bool false))])) (some [D.agg [S.sc (Value.int IntKind.i64 (0 : Int)), S.sc (Value.bool false)], D.s (S.sc (Value.bool false))]))))) (bcase (a == (6 : Int)) (bcase (UPlace.placeV b3 == (3 : Int)) (some [D.agg [S.sc (Value.int IntKind.i64 (2 : Int)), S.sc (Value.bool (wv (b1, b2) % (4 : Int) == (3 : Int)))], D.s (S.sc (Value.bool true))]) (bcase (a == (6 : Int)) (bcase (UPlace.placeV b3 == (4 : Int)) (some [D.agg [S.sc (Value.int IntKind.i64 (1 : Int)), S.sc (Value.bool (wv (b1, b2) % (4 : Int) == (3 : Int)))], D.s (S.sc (Value.bool true))]) (some [D.agg [S.sc (Value.int IntKind.i64 (0 : Int)), S.sc (Value.bool false)], D.s (S.sc (Value.bool false))])) (some [D.agg [S.sc (Value.int IntKind.i64 (0 : Int)), S.sc (Value.bool false)], D.s (S.sc (Value.bool false))]))) (bcase (a == (6 : Int)) (bcase (UPlace.placeV b3 == (4 : Int)) (some [D.agg [S.sc (Value.int IntKind.i64 (1 : Int)), S.sc (Value.bool (wv (b1, b2) % (4 : Int) == (3 : Int)))], D.s (S.sc (Value.bool true))]) (some [D.agg [S.sc (Value.int IntKind.i64 (0 : Int)), S.sc (Value.bool false)], D.s (S.sc (Value.bool false))])) (some [D.agg [S.sc (Value.int IntKind.i64 (0 : Int)), S.sc (Value.bool false)], D.s (S.sc (Value.bool false))])))))))))
      (bcase (a == (4 : Int))
        (bcase (UPlace.placeV b3 == (3 : Int)) (some [D.agg [S.sc (Value.int IntKind.i64 (1 : Int)), S.sc (Value.bool (wv (b1, b2) % (4 : Int) == (3 : Int)))], D.s (S.sc (Value.bool true))])
          (bcase (a == (5 : Int))
            (bcase (UPlace.placeV b3 == (1 : Int)) (some [D.agg [S.sc (Value.int IntKind.i64 (1 : Int)), S.sc (Value.bool (UPlace.placeV b3 == (2 : Int)))], D.s (S.sc (Value.bool true))])
              (bcase (UPlace.placeV b3 == (2 : Int)) (some [D.agg [S.sc (Value.int IntKind.i64 (1 : Int)), S.sc (Value.bool (UPlace.placeV b3 == (2 : Int)))], D.s (S.sc (Value.bool true))])
                (bcase (a == (5 : Int)) (bcase (UPlace.placeV b3 == (3 : Int)) (some [D.agg [S.sc (Value.int IntKind.i64 (0 : Int)), S.sc (Value.bool false)], D.s (S.sc (Value.bool true))]) (bcase (a == (6 : Int)) (bcase (UPlace.placeV b3 == (1 : Int)) (some [D.agg [S.sc (Value.int IntKind.i64 (0 : Int)), S.sc (Value.bool (b1 != (UPlace.placeV b3 == (2 : Int))))], D.s (S.sc (Value.bool true))]) (bcase (UPlace.placeV b3 == (2 : Int)) (some [D.agg [S.sc (Value.int IntKind.i64 (0 : Int)), S.sc (Value.bool (b1 != (UPlace.placeV b3 == (2 : Int))))], D.s (S.sc (Value.bool true))]) (bcase (a == (6 : Int)) (bcase (UPlace.placeV b3 == (3 : Int)) (some [D.agg [S.sc (Value.int IntKind.i64 (2 : Int)), S.sc (Value.bool (wv (b1, b2) % (4 : Int) == (3 : Int)))], D.s (S.sc (Value.bool true))]) (bcase (a == (6 : Int)) (bcase (UPlace.placeV b3 == (4 : Int)) (some [D.agg [S.sc (Value.int IntKind.i64 (1 : Int)), S.sc (Value.bool (wv (b1, b2) % (4 : Int) == (3 : Int)))], D.s (S.sc (Value.bool true))]) (some [D.agg [S.sc (Value.int IntKind.i64 (0 : Int)), S.sc (Value.bool false)], D.s (S.sc (Value.bool false))])) (some [D.agg [S.sc (Value.int IntKind.i64 (0 : Int)), S.sc (Value.bool false)], D.s (S.sc (Value.bool false))]))) (bcase (a == (6 : Int)) (bcase (UPlace.placeV b3 == (4 : Int)) (some [D.agg [S.sc (Value.int IntKind.i64 (1 : Int)), S.sc (Value.bool (wv (b1, b2) % (4 : Int) == (3 : Int)))], D.s (S.sc (Value.bool true))]) (some [D.agg [S.sc (Value.int IntKind.i64 (0 : Int)), S.sc (Value.bool false)], D.s (S.sc (Value.bool false))])) (some [D.agg [S.sc (Value.int IntKind.i64 (0 : Int)), S.sc (Value.bool false)], D.s (S.sc (Value.bool false))]))))) (bcase (a == (6 : Int)) (bcase (UPlace.placeV b3 == (3 : Int)) (some [D.agg [S.sc (Value.int IntKind.i64 (2 : Int)), S.sc (Value.bool (wv (b1, b2) % (4 : Int) == (3 : Int)))], D.s (S.sc (Value.bool true))]) (bcase (a == (6 : Int)) (bcase (UPlace.placeV b3 == (4 : Int)) (some [D.agg [S.sc (Value.int IntKind.i64 (1 : Int)), S.sc (Value.bool (wv (b1, b2) % (4 : Int) == (3 : Int)))], D.s (S.sc (Value.bool true))]) (some [D.agg [S.sc (Value.int IntKind.i64 (0 : Int)), S.sc (Value.bool false)], D.s (S.sc (Value.bool false))])) (some [D.agg [S.sc (Value.int IntKind.i64 (0 : Int)), S.sc (Value.bool false)], D.s (S.sc (Value.bool false))]))) (bcase (a == (6 : Int)) (bcase (UPlace.placeV b3 == (4 : Int)) (some [D.agg [S.sc (Value.int IntKind.i64 (1 : Int)), S.sc (Value.bool (wv (b1, b2) % (4 : Int) == (3 : Int)))], D.s (S.sc (Value.bool true))]) (some [D.agg [S.sc (Value.int IntKind.i64 (0 : Int)), S.sc (Value.bool false)], D.s (S.sc (Value.bool false))])) (some [D.agg [S.sc (Value.int IntKind.i64 (0 : Int)), S.sc (Value.bool false)], D.s (S.sc (Value.bool false))])))))
                  (bcase (a == (6 : Int)) (bcase (UPlace.placeV b3 == (1 : Int)) (some [D.agg [S.sc (Value.int IntKind.i64 (0 : Int)), S.sc (Value.bool (b1 != (UPlace.placeV b3 == (2 : Int))))], D.s (S.sc (Value.bool true))]) (bcase (UPlace.placeV b3 == (2 : Int)) (some [D.agg [S.sc (Value.int IntKind.i64 (0 : Int)), S.sc (Value.bool (b1 != (UPlace.placeV b3 == (2 : Int))))], D.s (S.sc (Value.bool true))]) (bcase (a == (6 : Int)) (bcase (UPlace.placeV b3 == (3 : Int)) (some [D.agg [S.sc (Value.int IntKind.i64 (2 : Int)), S.sc (Value.bool (wv (b1, b2) % (4 : Int) == (3 : Int)))], D.s (S.sc (Value.bool true))]) (bcase (a == (6 : Int)) (bcase (UPlace.placeV b3 == (4 : Int)) (some [D.agg [S.sc (Value.int IntKind.i64 (1 : Int)), S.sc (Value.bool (wv (b1, b2) % (4 : Int) == (3 : Int)))], D.s (S.sc (Value.bool true))]) (some [D.agg [S.sc (Value.int IntKind.i64 (0 : Int)), S.sc (Value.bool false)], D.s (S.sc (Value.bool false))])) (some [D.agg [S.sc (Value.int IntKind.i64 (0 : Int)), S.sc (Value.bool false)], D.s (S.sc (Value.bool false))]))) (bcase (a == (6 : Int)) (bcase (UPlace.placeV b3 == (4 : Int)) (some [D.agg [S.sc (Value.int IntKind.i64 (1 : Int)), S.sc (Value.bool (wv (b1, b2) % (4 : Int) == (3 : Int)))], D.s (S.sc (Value.bool true))]) (some [D.agg [S.sc (Value.int IntKind.i64 (0 : Int)), S.sc (Value.bool false)], D.s (S.sc (Value.bool false))])) (some [D.agg [S.sc (Value.int IntKind.i64 (0 : Int)), S.sc (Value.bool false)], D.s (S.sc (Value.bool false))]))))) (bcase (a == (6 : Int)) (bcase (UPlace.placeV b3 == (3 : Int)) (some [D.agg [S.sc (Value.int IntKind.i64 (2 : Int)), S.sc (Value.bool (wv (b1, b2) % (4 : Int) == (3 : Int)))], D.s (S.sc (Value.bool true))]) (bcase (a == (6 : Int)) (bcase (UPlace.placeV b3 == (4 : Int)) (some [D.agg [S.sc (Value.int IntKind.i64 (1 : Int)), S.sc (Value.bool (wv (b1, b2) % (4 : Int) == (3 : Int)))], D.s (S.sc (Value.bool true))]) (some [D.agg [S.sc (Value.int IntKind.i64 (0 : Int)), S.sc (Value.bool false)], D.s (S.sc (Value.bool false))])) (some [D.agg [S.sc (Value.int IntKind.i64 (0 : Int)), S.sc (Value.bool false)], D.s (S.sc (Value.bool false))]))) (bcase (a == (6 : Int)) (bcase (UPlace.placeV b3 == (4 : Int)) (some [D.agg [S.sc (Value.int IntKind.i64 (1 : Int)), S.sc (Value.bool (wv (b1, b2) % (4 : Int) == (3 : Int)))], D.s (S.sc (Value.bool true))]) (some [D.agg [S.sc (Value.int IntKind.i64 (0 : Int)), S.sc (Value.bool false)], D.s (S.sc (Value.bool false))])) (some [D.agg [S.sc (Value.int IntKind.i64 (0 : Int)), S.sc (Value.bool false)], D.s (S.sc (Value.bool false))])))))))
            (bcase (a == (5 : Int)) (bcase (UPlace.placeV b3 == (3 : Int)) (some [D.agg [S.sc (Value.int IntKind.i64 (0 : Int)), S.sc (Value.bool false)], D.s (S.sc (Value.bool true))]) (bcase (a == (6 : Int)) (bcase (UPlace.placeV b3 == (1 : Int)) (some [D.agg [S.sc (Value.int IntKind.i64 (0 : Int)), S.sc (Value.bool (b1 != (UPlace.placeV b3 == (2 : Int))))], D.s (S.sc (Value.bool true))]) (bcase (UPlace.placeV b3 == (2 : Int)) (some [D.agg [S.sc (Value.int IntKind.i64 (0 : Int)), S.sc (Value.bool (b1 != (UPlace.placeV b3 == (2 : Int))))], D.s (S.sc (Value.bool true))]) (bcase (a == (6 : Int)) (bcase (UPlace.placeV b3 == (3 : Int)) (some [D.agg [S.sc (Value.int IntKind.i64 (2 : Int)), S.sc (Value.bool (wv (b1, b2) % (4 : Int) == (3 : Int)))], D.s (S.sc (Value.bool true))]) (bcase (a == (6 : Int)) (bcase (UPlace.placeV b3 == (4 : Int)) (some [D.agg [S.sc (Value.int IntKind.i64 (1 : Int)), S.sc (Value.bool (wv (b1, b2) % (4 : Int) == (3 : Int)))], D.s (S.sc (Value.bool true))]) (some [D.agg [S.sc (Value.int IntKind.i64 (0 : Int)), S.sc (Value.bool false)], D.s (S.sc (Value.bool false))])) (some [D.agg [S.sc (Value.int IntKind.i64 (0 : Int)), S.sc (Value.bool false)], D.s (S.sc (Value.bool false))]))) (bcase (a == (6 : Int)) (bcase (UPlace.placeV b3 == (4 : Int)) (some [D.agg [S.sc (Value.int IntKind.i64 (1 : Int)), S.sc (Value.bool (wv (b1, b2) % (4 : Int) == (3 : Int)))], D.s (S.sc (Value.bool true))]) (some [D.agg [S.sc (Value.int IntKind.i64 (0 : Int)), S.sc (Value.bool false)], D.s (S.sc (Value.bool false))])) (some [D.agg [S.sc (Value.int IntKind.i64 (0 : Int)), S.sc (Value.bool false)], D.s (S.sc (Value.bool false))]))))) (bcase (a == (6 : Int)) (bcase (UPlace.placeV b3 == (3 : Int)) (some [D.agg [S.sc (Value.int IntKind.i64 (2 : Int)), S.sc (Value.bool (wv (b1, b2) % (4 : Int) == (3 : Int)))], D.s (S.sc (Value.bool true))]) (bcase (a == (6 : Int)) (bcase (UPlace.placeV b3 == (4 : Int)) (some [D.agg [S.sc (Value.int IntKind.i64 (1 : Int)), S.sc (Value.bool (wv (b1, b2) % (4 : Int) == (3 : Int)))], D.s (S.sc (Value.bool true))]) (some [D.agg [S.sc (Value.int IntKind.i64 (0 : Int)), S.sc (Value.bool false)], D.s (S.sc (Value.bool false))])) (some [D.agg [S.sc (Value.int IntKind.i64 (0 : Int)), S.sc (Value.bool false)], D.s (S.sc (Value.bool false))]))) (bcase (a == (6 : Int)) (bcase (UPlace.placeV b3 == (4 : Int)) (some [D.agg [S.sc (Value.int IntKind.i64 (1 : Int)), S.sc (Value.bool (wv (b1, b2) % (4 : Int) == (3 : Int)))], D.s (S.sc (Value.bool true))]) (some [D.agg [S.sc (Value.int IntKind.i64 (0 : Int)), S.sc (Value.bool false)], D.s (S.sc (Value.bool false))])) (some [D.agg [S.sc (Value.int IntKind.i64 (0 : Int)), S.sc (Value.bool false)], D.s (S.sc (Value.bool false))])))))
              (bcase (a == (6 : Int)) (bcase (UPlace.placeV b3 == (1 : Int)) (some [D.agg [S.sc (Value.int IntKind.i64 (0 : Int)), S.sc (Value.bool (b1 != (UPlace.placeV b3 == (2 : Int))))], D.s (S.sc (Value.bool true))]) (bcase (UPlace.placeV b3 == (2 : Int)) (some [D.agg [S.sc (Value.int IntKind.i64 (0 : Int)), S.sc (Value.bool (b1 != (UPlace.placeV b3 == (2 : Int))))], D.s (S.sc (Value.bool true))]) (bcase (a == (6 : Int)) (bcase (UPlace.placeV b3 == (3 : Int)) (some [D.agg [S.sc (Value.int IntKind.i64 (2 : Int)), S.sc (Value.bool (wv (b1, b2) % (4 : Int) == (3 : Int)))], D.s (S.sc (Value.bool true))]) (bcase (a == (6 : Int)) (bcase (UPlace.placeV b3 == (4 : Int)) (some [D.agg [S.sc (Value.int IntKind.i64 (1 : Int)), S.sc (Value.bool (wv (b1, b2) % (4 : Int) == (3 : Int)))], D.s (S.sc (Value.bool true))]) (some [D.agg [S.sc (Value.int IntKind.i64 (0 : Int)), S.sc (Value.bool false)], D.s (S.sc (Value.bool false))])) (some [D.agg [S.sc (Value.int IntKind.i64 (0 : Int)), S.sc (Value.bool false)], D.s (S.sc (Value.bool false))]))) (bcase (a == (6 : Int)) (bcase (UPlace.placeV b3 == (4 : Int)) (some [D.agg [S.sc (Value.int IntKind.i64 (1 : Int)), S.sc (Value.bool (wv (b1, b2) % (4 : Int) == (3 : Int)))], D.s (S.sc (Value.bool true))]) (some [D.agg [S.sc (Value.int IntKind.i64 (0 : Int)), S.sc (Value.bool false)], D.s (S.sc (Value.bool false))])) (some [D.agg [S.sc (Value.int IntKind.i64 (0 : Int)), S.sc (Value.bool false)], D.s (S.sc (Value.bool false))]))))) (bcase (a == (6 : Int)) (bcase (UPlace.placeV b3 == (3 : Int)) (some [D.agg [S.sc (Value.int IntKind.i64 (2 : Int)), S.sc (Value.bool (wv (b1, b2) % (4 : Int) == (3 : Int)))], D.s (S.sc (Value.bool true))]) (bcase (a == (6 : Int)) (bcase (UPlace.placeV b3 == (4 : Int)) (some [D.agg [S.sc (Value.int IntKind.i64 (1 : Int)), S.sc (Value.bool (wv (b1, b2) % (4 : Int) == (3 : Int)))], D.s (S.sc (Value.bool true))]) (some [D.agg [S.sc (Value.int IntKind.i64 (0 : Int)), S.sc (Value.bool false)], D.s (S.sc (Value.bool false))])) (some [D.agg [S.sc (Value.int IntKind.i64 (0 : Int)), S.sc (Value.bool false)], D.s (S.sc (Value.bool false))]))) (bcase (a == (6 : Int)) (bcase (UPlace.placeV b3 == (4 : Int)) (some [D.agg [S.sc (Value.int IntKind.i64 (1 : Int)), S.sc (Value.bool (wv (b1, b2) % (4 : Int) == (3 : Int)))], D.s (S.sc (Value.bool true))]) (some [D.agg [S.sc (Value.int IntKind.i64 (0 : Int)), S.sc (Value.bool false)], D.s (S.sc (Value.bool false))])) (some [D.agg [S.sc (Value.int IntKind.i64 (0 : Int)), S.sc (Value.bool false)], D.s (S.sc (Value.bool false))])))))))
        (bcase (a == (5 : Int))
          (bcase (UPlace.placeV b3 == (1 : Int)) (some [D.agg [S.sc (Value.int IntKind.i64 (1 : Int)), S.sc (Value.bool (UPlace.placeV b3 == (2 : Int)))], D.s (S.sc (Value.bool true))])
            (bcase (UPlace.placeV b3 == (2 : Int)) (some [D.agg [S.sc (Value.int IntKind.i64 (1 : Int)), S.sc (Value.bool (UPlace.placeV b3 == (2 : Int)))], D.s (S.sc (Value.bool true))])
              (bcase (a == (5 : Int)) (bcase (UPlace.placeV b3 == (3 : Int)) (some [D.agg [S.sc (Value.int IntKind.i64 (0 : Int)), S.sc (Value.bool false)], D.s (S.sc (Value.bool true))]) (bcase (a == (6 : Int)) (bcase (UPlace.placeV b3 == (1 : Int)) (some [D.agg [S.sc (Value.int IntKind.i64 (0 : Int)), S.sc (Value.bool (b1 != (UPlace.placeV b3 == (2 : Int))))], D.s (S.sc (Value.bool true))]) (bcase (UPlace.placeV b3 == (2 : Int)) (some [D.agg [S.sc (Value.int IntKind.i64 (0 : Int)), S.sc (Value.bool (b1 != (UPlace.placeV b3 == (2 : Int))))], D.s (S.sc (Value.bool true))]) (bcase (a == (6 : Int)) (bcase (UPlace.placeV b3 == (3 : Int)) (some [D.agg [S.sc (Value.int IntKind.i64 (2 : Int)), S.sc (Value.bool (wv (b1, b2) % (4 : Int) == (3 : Int)))], D.s (S.sc (Value.bool true))]) (bcase (a == (6 : Int)) (bcase (UPlace.placeV b3 == (4 : Int)) (some [D.agg [S.sc (Value.int IntKind.i64 (1 : Int)), S.sc (Value.bool (wv (b1, b2) % (4 : Int) == (3 : Int)))], D.s (S.sc (Value.bool true))]) (some [D.agg [S.sc (Value.int IntKind.i64 (0 : Int)), S.sc (Value.bool false)], D.s (S.sc (Value.bool false))])) (some [D.agg [S.sc (Value.int IntKind.i64 (0 : Int)), S.sc (Value.bool false)], D.s (S.sc (Value.bool false))]))) (bcase (a == (6 : Int)) (bcase (UPlace.placeV b3 == (4 : Int)) (some [D.agg [S.sc (Value.int IntKind.i64 (1 : Int)), S.sc (Value.bool (wv (b1, b2) % (4 : Int) == (3 : Int)))], D.s (S.sc (Value.bool true))]) (some [D.agg [S.sc (Value.int IntKind.i64 (0 : Int)), S.sc (Value.bool false)], D.s (S.sc (Value.bool false))])) (some [D.agg [S.sc (Value.int IntKind.i64 (0 : Int)), S.sc (Value.bool false)], D.s (S.sc (Value.bool false))]))))) (bcase (a == (6 : Int)) (bcase (UPlace.placeV b3 == (3 : Int)) (some [D.agg [S.sc (Value.int IntKind.i64 (2 : Int)), S.sc (Value.bool (wv (b1, b2) % (4 : Int) == (3 : Int)))], D.s (S.sc (Value.bool true))]) (bcase (a == (6 : Int)) (bcase (UPlace.placeV b3 == (4 : Int)) (some [D.agg [S.sc (Value.int IntKind.i64 (1 : Int)), S.sc (Value.bool (wv (b1, b2) % (4 : Int) == (3 : Int)))], D.s (S.sc (Value.bool true))]) (some [D.agg [S.sc (Value.int IntKind.i64 (0 : Int)), S.sc (Value.bool false)], D.s (S.sc (Value.bool false))])) (some [D.agg [S.sc (Value.int IntKind.i64 (0 : Int)), S.sc (Value.bool false)], D.s (S.sc (Value.bool false))]))) (bcase (a == (6 : Int)) (bcase (UPlace.placeV b3 == (4 : Int)) (some [D.agg [S.sc (Value.int IntKind.i64 (1 : Int)), S.sc (Value.bool (wv (b1, b2) % (4 : Int) == (3 : Int)))], D.s (S.sc (Value.bool true))]) (some [D.agg [S.sc (Value.int IntKind.i64 (0 : Int)), S.sc (Value.bool false)], D.s (S.sc (Value.bool false))])) (some [D.agg [S.sc (Value.int IntKind.i64 (0 : Int)), S.sc (Value.bool false)], D.s (S.sc (Value.bool false))])))))
                (bcase (a == (6 : Int)) (bcase (UPlace.placeV b3 == (1 : Int)) (some [D.agg [S.sc (Value.int IntKind.i64 (0 : Int)), S.sc (Value.bool (b1 != (UPlace.placeV b3 == (2 : Int))))], D.s (S.sc (Value.bool true))]) (bcase (UPlace.placeV b3 == (2 : Int)) (some [D.agg [S.sc (Value.int IntKind.i64 (0 : Int)), S.sc (Value.bool (b1 != (UPlace.placeV b3 == (2 : Int))))], D.s (S.sc (Value.bool true))]) (bcase (a == (6 : Int)) (bcase (UPlace.placeV b3 == (3 : Int)) (some [D.agg [S.sc (Value.int IntKind.i64 (2 : Int)), S.sc (Value.bool (wv (b1, b2) % (4 : Int) == (3 : Int)))], D.s (S.sc (Value.bool true))]) (bcase (a == (6 : Int)) (bcase (UPlace.placeV b3 == (4 : Int)) (some [D.agg [S.sc (Value.int IntKind.i64 (1 : Int)), S.sc (Value.bool (wv (b1, b2) % (4 : Int) == (3 : Int)))], D.s (S.sc (Value.bool true))]) (some [D.agg [S.sc (Value.int IntKind.i64 (0 : Int)), S.sc (Value.bool false)], D.s (S.sc (Value.bool false))])) (some [D.agg [S.sc (Value.int IntKind.i64 (0 : Int)), S.sc (Value.bool false)], D.s (S.sc (Value.bool false))]))) (bcase (a == (6 : Int)) (bcase (UPlace.placeV b3 == (4 : Int)) (some [D.agg [S.sc (Value.int IntKind.i64 (1 : Int)), S.sc (Value.bool (wv (b1, b2) % (4 : Int) == (3 : Int)))], D.s (S.sc (Value.bool true))]) (some [D.agg [S.sc (Value.int IntKind.i64 (0 : Int)), S.sc (Value.bool false)], D.s (S.sc (Value.bool false))])) (some [D.agg [S.sc (Value.int IntKind.i64 (0 : Int)), S.sc (Value.bool false)], D.s (S.sc (Value.bool false))]))))) (bcase (a == (6 : Int)) (bcase (UPlace.placeV b3 == (3 : Int)) (some [D.agg [S.sc (Value.int IntKind.i64 (2 : Int)), S.sc (Value.bool (wv (b1, b2) % (4 : Int) == (3 : Int)))], D.s (S.sc (Value.bool true))]) (bcase (a == (6 : Int)) (bcase (UPlace.placeV b3 == (4 : Int)) (some [D.agg [S.sc (Value.int IntKind.i64 (1 : Int)), S.sc (Value.bool (wv (b1, b2) % (4 : Int) == (3 : Int)))], D.s (S.sc (Value.bool true))]) (some [D.agg [S.sc (Value.int IntKind.i64 (0 : Int)), S.sc (Value.bool false)], D.s (S.sc (Value.bool false))])) (some [D.agg [S.sc (Value.int IntKind.i64 (0 : Int)), S.sc (Value.bool false)], D.s (S.sc (Value.bool false))]))) (bcase (a == (6 : Int)) (bcase (UPlace.placeV b3 == (4 : Int)) (some [D.agg [S.sc (Value.int IntKind.i64 (1 : Int)), S.sc (Value.bool (wv (b1, b2) % (4 : Int) == (3 : Int)))], D.s (S.sc (Value.bool true))]) (some [D.agg [S.sc (Value.int IntKind.i64 (0 : Int)), S.sc (Value.bool false)], D.s (S.sc (Value.bool false))])) (some [D.agg [S.sc (Value.int IntKind.i64 (0 : Int)), S.sc (Value.bool false)], D.s (S.sc (Value.bool false))])))))))
          (bcase (a == (5 : Int)) (bcase (UPlace.placeV b3 == (3 : Int)) (some [D.agg [S.sc (Value.int IntKind.i64 (0 : Int)), S.sc (Value.bool false)], D.s (S.sc (Value.bool true))]) (bcase (a == (6 : Int)) (bcase (UPlace.placeV b3 == (1 : Int)) (some [D.agg [S.sc (Value.int IntKind.i64 (0 : Int)), S.sc (Value.bool (b1 != (UPlace.placeV b3 == (2 : Int))))], D.s (S.sc (Value.bool true))]) (bcase (UPlace.placeV b3 == (2 : Int)) (some [D.agg [S.sc (Value.int IntKind.i64 (0 : Int)), S.sc (Value.bool (b1 != (UPlace.placeV b3 == (2 : Int))))], D.s (S.sc (Value.bool true))]) (bcase (a == (6 : Int)) (bcase (UPlace.placeV b3 == (3 : Int)) (some [D.agg [S.sc (Value.int IntKind.i64 (2 : Int)), S.sc (Value.bool (wv (b1, b2) % (4 : Int) == (3 : Int)))], D.s (S.sc (Value.bool true))]) (bcase (a == (6 : Int)) (bcase (UPlace.placeV b3 == (4 : Int)) (some [D.agg [S.sc (Value.int IntKind.i64 (1 : Int)), S.sc (Value.bool (wv (b1, b2) % (4 : Int) == (3 : Int)))], D.s (S.sc (Value.bool true))]) (some [D.agg [S.sc (Value.int IntKind.i64 (0 : Int)), S.sc (Value.bool false)], D.s (S.sc (Value.bool false))])) (some [D.agg [S.sc (Value.int IntKind.i64 (0 : Int)), S.sc (Value.bool false)], D.s (S.sc (Value.bool false))]))) (bcase (a == (6 : Int)) (bcase (UPlace.placeV b3 == (4 : Int)) (some [D.agg [S.sc (Value.int IntKind.i64 (1 : Int)), S.sc (Value.bool (wv (b1, b2) % (4 : Int) == (3 : Int)))], D.s (S.sc (Value.bool true))]) (some [D.agg [S.sc (Value.int IntKind.i64 (0 : Int)), S.sc (Value.bool false)], D.s (S.sc (Value.bool false))])) (some [D.agg [S.sc (Value.int IntKind.i64 (0 : Int)), S.sc (Value.bool false)], D.s (S.sc (Value.bool false))]))))) (bcase (a == (6 : Int)) (bcase (UPlace.placeV b3 == (3 : Int)) (some [D.agg [S.sc (Value.int IntKind.i64 (2 : Int)), S.sc (Value.bool (wv (b1, b2) % (4 : Int) == (3 : Int)))], D.s (S.sc (Value.bool true))]) (bcase (a == (6 : Int)) (bcase (UPlace.placeV b3 == (4 : Int)) (some [D.agg [S.sc (Value.int IntKind.i64 (1 : Int)), S.sc (Value.bool (wv (b1, b2) % (4 : Int) == (3 : Int)))], D.s (S.sc (Value.bool true))]) (some [D.agg [S.sc (Value.int IntKind.i64 (0 : Int)), S.sc (Value.bool false)], D.s (S.sc (Value.bool false))])) (some [D.agg [S.sc (Value.int IntKind.i64 (0 : Int)), S.sc (Value.bool false)], D.s (S.sc (Value.bool false))]))) (bcase (a == (6 : Int)) (bcase (UPlace.placeV b3 == (4 : Int)) (some [D.agg [S.sc (Value.int IntKind.i64 (1 : Int)), S.sc (Value.bool (wv (b1, b2) % (4 : Int) == (3 : Int)))], D.s (S.sc (Value.bool true))]) (some [D.agg [S.sc (Value.int IntKind.i64 (0 : Int)), S.sc (Value.bool false)], D.s (S.sc (Value.bool false))])) (some [D.agg [S.sc (Value.int IntKind.i64 (0 : Int)), S.sc (Value.bool false)], D.s (S.sc (Value.bool false))])))))
            (bcase (a == (6 : Int)) (bcase (UPlace.placeV b3 == (1 : Int)) (some [D.agg [S.sc (Value.int IntKind.i64 (0 : Int)), S.sc (Value.bool (b1 != (UPlace.placeV b3 == (2 : Int))))], D.s (S.sc (Value.bool true))]) (bcase (UPlace.placeV b3 == (2 : Int)) (some [D.agg [S.sc (Value.int IntKind.i64 (0 : Int)), S.sc (Value.bool (b1 != (UPlace.placeV b3 == (2 : Int))))], D.s (S.sc (Value.bool true))]) (bcase (a == (6 : Int)) (bcase (UPlace.placeV b3 == (3 : Int)) (some [D.agg [S.sc (Value.int IntKind.i64 (2 : Int)), S.sc (Value.bool (wv (b1, b2) % (4 : Int) == (3 : Int)))], D.s (S.sc (Value.bool true))]) (bcase (a == (6 : Int)) (bcase (UPlace.placeV b3 == (4 : Int)) (some [D.agg [S.sc (Value.int IntKind.i64 (1 : Int)), S.sc (Value.bool (wv (b1, b2) % (4 : Int) == (3 : Int)))], D.s (S.sc (Value.bool true))]) (some [D.agg [S.sc (Value.int IntKind.i64 (0 : Int)), S.sc (Value.bool false)], D.s (S.sc (Value.bool false))])) (some [D.agg [S.sc (Value.int IntKind.i64 (0 : Int)), S.sc (Value.bool false)], D.s (S.sc (Value.bool false))]))) (bcase (a == (6 : Int)) (bcase (UPlace.placeV b3 == (4 : Int)) (some [D.agg [S.sc (Value.int IntKind.i64 (1 : Int)), S.sc (Value.bool (wv (b1, b2) % (4 : Int) == (3 : Int)))], D.s (S.sc (Value.bool true))]) (some [D.agg [S.sc (Value.int IntKind.i64 (0 : Int)), S.sc (Value.bool false)], D.s (S.sc (Value.bool false))])) (some [D.agg [S.sc (Value.int IntKind.i64 (0 : Int)), S.sc (Value.bool false)], D.s (S.sc (Value.bool false))]))))) (bcase (a == (6 : Int)) (bcase (UPlace.placeV b3 == (3 : Int)) (some [D.agg [S.sc (Value.int IntKind.i64 (2 : Int)), S.sc (Value.bool (wv (b1, b2) % (4 : Int) == (3 : Int)))], D.s (S.sc (Value.bool true))]) (bcase (a == (6 : Int)) (bcase (UPlace.placeV b3 == (4 : Int)) (some [D.agg [S.sc (Value.int IntKind.i64 (1 : Int)), S.sc (Value.bool (wv (b1, b2) % (4 : Int) == (3 : Int)))], D.s (S.sc (Value.bool true))]) (some [D.agg [S.sc (Value.int IntKind.i64 (0 : Int)), S.sc (Value.bool false)], D.s (S.sc (Value.bool false))])) (some [D.agg [S.sc (Value.int IntKind.i64 (0 : Int)), S.sc (Value.bool false)], D.s (S.sc (Value.bool false))]))) (bcase (a == (6 : Int)) (bcase (UPlace.placeV b3 == (4 : Int)) (some [D.agg [S.sc (Value.int IntKind.i64 (1 : Int)), S.sc (Value.bool (wv (b1, b2) % (4 : Int) == (3 : Int)))], D.s (S.sc (Value.bool true))]) (some [D.agg [S.sc (Value.int IntKind.i64 (0 : Int)), S.sc (Value.bool false)], D.s (S.sc (Value.bool false))])) (some [D.agg [S.sc (Value.int IntKind.i64 (0 : Int)), S.sc (Value.bool false)], D.s (S.sc (Value.bool false))]))))))))) := (evalFn_J rfl nok _).trans (by kernel_rfl)
-- stuck: 0
end UExact0
namespace UExact0
/-- The exact value of a function of pi times x: its size (2: a pole), its sign, whether it has one. -/
def exV (fn : Int) (p : Int × Int) : Int × Bool × Bool :=
  if fn = 4 then (if 0 ≤ p.2 then (0, isNeg p.1, true) else if p.2 = -1 then (1, p.1 % 4 == 3, true) else (0, false, false))
  else if fn = 5 then (if 0 ≤ p.2 then (1, p.2 == 0, true) else if p.2 = -1 then (0, false, true) else (0, false, false))
  else if fn = 6 then (if 0 ≤ p.2 then (0, isNeg p.1 != (p.2 == 0), true) else if p.2 = -1 then (2, p.1 % 4 == 3, true) else if p.2 = -2 then (1, p.1 % 4 == 3, true) else (0, false, false))
  else (0, false, false)
noncomputable def sp (fn : Int) (x : Bool × List Int × Int) : Prop × List D := (DyOk x, [.agg [.sc (.int .i64 (exV fn (dv x)).1), .sc (.bool (exV fn (dv x)).2.1)], .s (.sc (.bool (exV fn (dv x)).2.2))])
theorem spec (fn : Int) (x : Bool × List Int × Int) (h : (sp fn x).1) : evalFn E Tryz.f93 cod [(pN .i64).put fn, (pG (.pair sB (.pair (sI .u64) (sN .i64)))).put x] = some (sp fn x).2 := by
  have h : DyOk x := h
  refine (start fn x.1 x.2.1 x.2.2).trans ((gP trivial).trans ((gP h.wok).trans ?_))
  have hw := h.wok.cells.1
  obtain ⟨b, a, e⟩ := x
  try dsimp only at *
  unfold sp exV dv
  try dsimp only
  rw [hw]
  generalize wv (b, a) = z
  have hpl : (0 < e ∧ UPlace.placeV e = 1) ∨ (e = 0 ∧ UPlace.placeV e = 2) ∨ (e = -1 ∧ UPlace.placeV e = 3) ∨ (e = -2 ∧ UPlace.placeV e = 4) ∨ (e < -2 ∧ UPlace.placeV e = 0) := by
    unfold UPlace.placeV
    split
    · omega
    · split
      · omega
      · split
        · omega
        · split <;> omega
  generalize UPlace.placeV e = pv at *
  by_cases h4 : fn = 4
  · subst h4
    rcases hpl with ⟨he, rfl⟩ | ⟨rfl, rfl⟩ | ⟨rfl, rfl⟩ | ⟨rfl, rfl⟩ | ⟨he, rfl⟩
    · rw [if_pos rfl, if_pos (by omega)]; rfl
    · rfl
    · rfl
    · rfl
    · rw [if_pos rfl, if_neg (by omega), if_neg (by omega)]; rfl
  · by_cases h5 : fn = 5
    · subst h5
      rcases hpl with ⟨he, rfl⟩ | ⟨rfl, rfl⟩ | ⟨rfl, rfl⟩ | ⟨rfl, rfl⟩ | ⟨he, rfl⟩
      · rw [if_neg (by omega), if_pos rfl, if_pos (by omega), beq_eq_false_iff_ne.2 (show e ≠ 0 by omega)]; rfl
      · rfl
      · rfl
      · rfl
      · rw [if_neg (by omega), if_pos rfl, if_neg (by omega), if_neg (by omega)]; rfl
    · by_cases h6 : fn = 6
      · subst h6
        rcases hpl with ⟨he, rfl⟩ | ⟨rfl, rfl⟩ | ⟨rfl, rfl⟩ | ⟨rfl, rfl⟩ | ⟨he, rfl⟩
        · rw [if_neg (by omega), if_neg (by omega), if_pos rfl, if_pos (by omega), beq_eq_false_iff_ne.2 (show e ≠ 0 by omega)]; rfl
        · rfl
        · rfl
        · rfl
        · rw [if_neg (by omega), if_neg (by omega), if_pos rfl, if_neg (by omega), if_neg (by omega), if_neg (by omega)]; rfl
      · rw [if_neg h4, if_neg h5, if_neg h6]
        simp only [beq_eq_false_iff_ne.2 h4, beq_eq_false_iff_ne.2 h5, beq_eq_false_iff_ne.2 h6, bF]

noncomputable def orc : Orc := orc2 (pN .i64) (pG (.pair sB (.pair (sI .u64) (sN .i64)))) sp
theorem fnok : FnOk Tryz.prog E 93 Tryz.f93 cod := fnOk ty_ok mixed (callsOk_of _ rfl (orcs_cons UPlace.ok (orcs_cons UMod4.ok orcs_nil)) (ext_ok)) Tryz.func93 rfl rfl rfl
theorem ok : OrcOk Tryz.prog base.glob 93 orc := fnok.ok2 rfl spec
end UExact0
end Go.Proofs.YtknafopmgaolmaaGreatDoor.W

/- gnomon/turn.Exact -/
namespace Go.Proofs.YtknafopmgaolmaaGreatDoor.W
open Go Go.Proofs.YtknafopmgaolmaaGreatDoor.AI Go.Proofs.YtknafopmgaolmaaGreatDoor.M
namespace UExact
noncomputable def E : Env := { ({ base with C := callsOf [(51, BQuiet.orc), (91, UKnown.orc), (112, BClassOf.orc), (113, UPattern.orc), (44, BValue.orc), (93, UExact0.orc)] }) with nt := 67, own := [18, 31, 48, 66], keep := fun k => (tlook [] k).getD [], cut := tlook [(4, [0, 1, 2, 9]), (15, [0, 1, 2])] }
noncomputable def cod : Code := (Go.Proofs.Tryz.f50.body).getD .skip
theorem nok : namesOk E cod = true := by kernel_rfl
noncomputable def J4 (x0 : Int) (x1 : Int) (x2 : Int) (x3 : Int) : Option (List D) := ctO E Go.Proofs.Tryz.f50 cod 4 [(A.v (V.one (L.s (S.sc (Value.int IntKind.i64 x0)))), none), (A.v (V.one (L.s (S.sc (Value.int IntKind.i64 x1)))), none), (A.v (V.one (L.s (S.sc (Value.int IntKind.u64 x2)))), none), (A.v (V.one (L.s (S.sc (Value.int IntKind.u64 x3)))), none)]
noncomputable def J15 (x0 : Int) (x1 : Int) (x2 : Int) : Option (List D) := ctO E Go.Proofs.Tryz.f50 cod 15 [(A.v (V.one (L.s (S.sc (Value.int IntKind.i64 x0)))), none), (A.v (V.one (L.s (S.sc (Value.int IntKind.i64 x1)))), none), (A.v (V.one (L.s (S.sc (Value.int IntKind.u64 x2)))), none)]
theorem start (a : Int) (b : Int) (c : Int) : evalFn E Go.Proofs.Tryz.f50 cod [D.s (S.sc (Value.int IntKind.i64 a)), D.s (S.sc (Value.int IntKind.i64 b)), D.s (S.sc (Value.int IntKind.u64 c))] = gif True (vlet (BShape.shp a).snd.snd.snd fun y0 => vlet (bif BQuiet.fmtB a then (0 : Int) else (1 : Int)) fun y1 => bcase (y1 != (0 : Int)) (some [D.s (S.sc (Value.int IntKind.u64 (0 : Int))), D.s (S.sc (Value.bool false)), D.s (S.sc (Value.int IntKind.i64 (1 : Int)))]) (gif True (bcase (!UKnown.knownB b) (some [D.s (S.sc (Value.int IntKind.u64 (0 : Int))), D.s (S.sc (Value.bool false)), D.s (S.sc (Value.int IntKind.i64 (1 : Int)))]) (UExact.J4 a b c y0)))) := (evalFn_J rfl nok _).trans (by kernel_rfl)
theorem J4_eq (x0 : Int) (x1 : Int) (x2 : Int) (x3 : Int) : J4 x0 x1 x2 x3 = gif ((x0 = (32 : Int) ∨ x0 = (64 : Int)) ∧ (0 : Int) ≤ x2 ∧ x2 < (18446744073709551616 : Int)) (vlet (bif BTake.patB x0 x2 then BClass.classV (BShape.shp x0) (x2 % BSign.signV (BShape.shp x0)) else (0 : Int)) fun y2 => vlet (bif BTake.patB x0 x2 then (0 : Int) else (2 : Int)) fun y3 => bcase (y3 != (0 : Int)) (some [D.s (S.sc (Value.int IntKind.u64 (0 : Int))), D.s (S.sc (Value.bool false)), D.s (S.sc (Value.int IntKind.i64 y3))]) (bcase (y2 == (4 : Int)) (some [D.s (S.sc (Value.int IntKind.u64 x3)), D.s (S.sc (Value.bool true)), D.s (S.sc (Value.int IntKind.i64 (0 : Int)))]) (bcase (y2 == (3 : Int)) (some [D.s (S.sc (Value.int IntKind.u64 x3)), D.s (S.sc (Value.bool true)), D.s (S.sc (Value.int IntKind.i64 (0 : Int)))]) (bcase (y2 == (0 : Int)) (bcase (x1 == (5 : Int)) (gif ((x0 = (32 : Int) ∨ x0 = (64 : Int)) ∧ ((1 : Int) = (0 : Int) ∨ (1 : Int) = (1 : Int) ∨ (1 : Int) = (2 : Int))) (vlet (UPattern.patV x0 (1 : Int) false) fun y4 => some [D.s (S.sc (Value.int IntKind.u64 y4)), D.s (S.sc (Value.bool true)), D.s (S.sc (Value.int IntKind.i64 (0 : Int)))])) (some [D.s (S.sc (Value.int IntKind.u64 x2)), D.s (S.sc (Value.bool true)), D.s (S.sc (Value.int IntKind.i64 (0 : Int)))])) (UExact.J15 x0 x1 x2))))) := (cutAt_J rfl nok 4 _).trans (by kernel_rfl)
theorem J15_eq (x0 : Int) (x1 : Int) (x2 : Int) : J15 x0 x1 x2 = gif ((x0 = (32 : Int) ∨ x0 = (64 : Int)) ∧ (0 : Int) ≤ x2 ∧ x2 < (18446744073709551616 : Int)) (vlet (isNeg (bif BTake.patB x0 x2 && BFinite.finB x0 x2 then nrmD (BValue.valZ x0 x2) (BValue.valE x0 x2) else ((0 : Int), (0 : Int))).fst) fun y5 => vlet (M6.dg (bif BTake.patB x0 x2 && BFinite.finB x0 x2 then nrmD (BValue.valZ x0 x2) (BValue.valE x0 x2) else ((0 : Int), (0 : Int))).fst.natAbs) fun y6 => vlet (bif BTake.patB x0 x2 && BFinite.finB x0 x2 then nrmD (BValue.valZ x0 x2) (BValue.valE x0 x2) else ((0 : Int), (0 : Int))).snd fun y7 => gif (DyOk (y5, y6, y7)) (vlet (UExact0.exV x1 (dv (y5, y6, y7))).fst fun y9 => vlet (UExact0.exV x1 (dv (y5, y6, y7))).snd.fst fun y10 => vlet (UExact0.exV x1 (dv (y5, y6, y7))).snd.snd fun y11 => bcase (!y11) (some [D.s (S.sc (Value.int IntKind.u64 (0 : Int))), D.s (S.sc (Value.bool false)), D.s (S.sc (Value.int IntKind.i64 (0 : Int)))]) (gif ((x0 = (32 : Int) ∨ x0 = (64 : Int)) ∧ (y9 = (0 : Int) ∨ y9 = (1 : Int) ∨ y9 = (2 : Int))) (some [D.s (S.sc (Value.int IntKind.u64 (UPattern.patV x0 y9 y10))), D.s (S.sc (Value.bool true)), D.s (S.sc (Value.int IntKind.i64 (0 : Int)))])))) := (cutAt_J rfl nok 15 _).trans (by kernel_rfl)
-- stuck: 0
end UExact
namespace UExact
/-- The number of a finite pattern. -/
def numF (f b : Int) : Int × Int := nrmD (BValue.valZ f b) (BValue.valE f b)
theorem numF_pin {f b : Int} (h : f = 32 ∨ f = 64) (_ : 0 ≤ b) (hf : BFinite.finB f b = true) : PIn (numF f b) ∧ (BValue.valZ f b).natAbs < 2 ^ 53 ∧ -1074 ≤ BValue.valE f b ∧ BValue.valE f b ≤ 1023 := by
  have hs := BFinite.two_shp h
  have hn0 : 0 ≤ b % BSign.signV (BShape.shp f) := by unfold BSign.signV; split <;> omega
  have hfin : b % BSign.signV (BShape.shp f) < BInf.infV (BShape.shp f) := of_decide_eq_true hf
  have hm := BValue.man_lt hs hn0
  have hx := BValue.exp_lt hs hn0 hfin
  have hz : (BValue.valZ f b).natAbs < 2 ^ 53 := by
    unfold BValue.valZ
    rw [zs_abs]
    omega
  have he : -1074 ≤ BValue.valE f b ∧ BValue.valE f b ≤ 1023 := ⟨hx.1, by unfold BValue.valE; omega⟩
  have hb : bl (BValue.valZ f b).natAbs ≤ 53 := bl_le.2 hz
  exact ⟨pin_nrm (inD_of (by omega) (by omega)) (by omega), hz, he⟩
/-- Exact's answer. -/
def exactR (f fn b : Int) : Int × Bool × Int :=
  if BQuiet.fmtB f = false ∨ UKnown.knownB fn = false then (0, false, 1)
  else if BTake.patB f b = false then (0, false, 2)
  else if BClass.classV (BShape.shp f) (b % BSign.signV (BShape.shp f)) = 4 ∨ BClass.classV (BShape.shp f) (b % BSign.signV (BShape.shp f)) = 3 then ((BShape.shp f).2.2.2, true, 0)
  else if BClass.classV (BShape.shp f) (b % BSign.signV (BShape.shp f)) = 0 then (if fn = 5 then UPattern.patV f 1 false else b, true, 0)
  else if (UExact0.exV fn (numF f b)).2.2 = true then (UPattern.patV f (UExact0.exV fn (numF f b)).1 (UExact0.exV fn (numF f b)).2.1, true, 0)
  else (0, false, 0)
noncomputable def sp (f fn b : Int) : Prop × List D := (0 ≤ b ∧ b < 18446744073709551616, [.s (.sc (.int .u64 (exactR f fn b).1)), .s (.sc (.bool (exactR f fn b).2.1)), .s (.sc (.int .i64 (exactR f fn b).2.2))])
theorem ex_size (fn : Int) (p : Int × Int) : (UExact0.exV fn p).1 = 0 ∨ (UExact0.exV fn p).1 = 1 ∨ (UExact0.exV fn p).1 = 2 := by
  unfold UExact0.exV
  repeat' split
  all_goals simp
theorem class_fin {f b : Int} (h : f = 32 ∨ f = 64) (c3 : BClass.classV (BShape.shp f) (b % BSign.signV (BShape.shp f)) ≠ 3) (c4 : BClass.classV (BShape.shp f) (b % BSign.signV (BShape.shp f)) ≠ 4) : BFinite.finB f b = true := by
  unfold BFinite.finB
  have hi : BHidden.hidV (BShape.shp f) < BInf.infV (BShape.shp f) ∧ 0 < BHidden.hidV (BShape.shp f) := by
    rcases h with rfl | rfl
    · exact ⟨by show (8388608 : Int) < 2139095040; omega, by show (0 : Int) < 8388608; omega⟩
    · exact ⟨by show (4503599627370496 : Int) < 9218868437227405312; omega, by show (0 : Int) < 4503599627370496; omega⟩
  generalize b % BSign.signV (BShape.shp f) = n at *
  refine decide_eq_true ?_
  unfold BClass.classV at c3 c4
  by_cases h0 : n = 0
  · omega
  · by_cases h1 : n < BHidden.hidV (BShape.shp f)
    · omega
    · by_cases h2 : n < BInf.infV (BShape.shp f)
      · exact h2
      · rw [if_neg h0, if_neg h1, if_neg h2] at c3 c4
        by_cases h3 : n = BInf.infV (BShape.shp f)
        · rw [if_pos h3] at c3; exact (c3 rfl).elim
        · rw [if_neg h3] at c4; exact (c4 rfl).elim
theorem spec (f fn b : Int) (h : (sp f fn b).1) : evalFn E Tryz.f50 cod [(pN .i64).put f, (pN .i64).put fn, (pN .u64).put b] = some (sp f fn b).2 := by
  have h : 0 ≤ b ∧ b < 18446744073709551616 := h
  refine (start f fn b).trans ((gP trivial).trans ?_)
  rw [vl, vl, gP trivial]
  unfold sp exactR
  cases hq : BQuiet.fmtB f with
  | false => rw [if_pos (.inl rfl)]; rfl
  | true =>
    have hf : f = 32 ∨ f = 64 := of_decide_eq_true hq
    rw [cond_true, bN_neg rfl]
    cases hk : UKnown.knownB fn with
    | false => rw [if_pos (.inr rfl)]; rfl
    | true =>
      rw [if_neg (by simp), Bool.not_true, bF, J4_eq, gP ⟨hf, h⟩, vl, vl]
      cases hp : BTake.patB f b with
      | false => rw [if_pos rfl]; rfl
      | true =>
        rw [if_neg (by simp), cond_true, cond_true, bN_neg rfl]
        by_cases c4 : BClass.classV (BShape.shp f) (b % BSign.signV (BShape.shp f)) = 4
        · rw [bE_pos c4, if_pos (.inl c4)]
        · rw [bE_neg c4]
          by_cases c3 : BClass.classV (BShape.shp f) (b % BSign.signV (BShape.shp f)) = 3
          · rw [bE_pos c3, if_pos (.inr c3)]
          · rw [bE_neg c3, if_neg (fun h => h.elim c4 c3)]
            have hfin := class_fin hf c3 c4
            by_cases c0 : BClass.classV (BShape.shp f) (b % BSign.signV (BShape.shp f)) = 0
            · rw [bE_pos c0, if_pos c0]
              by_cases h5 : fn = 5
              · rw [bE_pos h5, if_pos h5, gP ⟨hf, .inr (.inl rfl)⟩]; rfl
              · rw [bE_neg h5, if_neg h5]
            · rw [bE_neg c0, if_neg c0, J15_eq, gP ⟨hf, h⟩]
              have e1 : (bif BTake.patB f b && BFinite.finB f b then nrmD (BValue.valZ f b) (BValue.valE f b) else ((0 : Int), (0 : Int))) = numF f b := by rw [hp, hfin]; rfl
              rw [e1, vl_dy, gP (dyok_of (numF_pin hf h.1 hfin).1), dv_cells, vl, vl, vl]
              cases hv : (UExact0.exV fn (numF f b)).2.2 with
              | false => rw [if_neg (by simp)]; try rfl
              | true => rw [if_pos rfl, Bool.not_true, bF, gP ⟨hf, ex_size _ _⟩]; try rfl

noncomputable def orc : Orc := orc3 (pN .i64) (pN .i64) (pN .u64) sp
theorem fnok : FnOk Tryz.prog E 50 Tryz.f50 cod := fnOk ty_ok mixed (callsOk_of _ rfl (orcs_cons BQuiet.ok (orcs_cons UKnown.ok (orcs_cons BClassOf.ok (orcs_cons UPattern.ok (orcs_cons BValue.ok (orcs_cons UExact0.ok orcs_nil)))))) (ext_ok)) Tryz.func50 rfl rfl rfl
theorem ok : OrcOk Tryz.prog base.glob 50 orc := fnok.ok3 rfl spec
end UExact
end Go.Proofs.YtknafopmgaolmaaGreatDoor.W

/- gnomon/turn.point -/
namespace Go.Proofs.YtknafopmgaolmaaGreatDoor.W
open Go Go.Proofs.YtknafopmgaolmaaGreatDoor.AI Go.Proofs.YtknafopmgaolmaaGreatDoor.M
namespace UPoint
noncomputable def E : Env := { ({ base with C := callsOf [(109, UDyad.orc)] }) with nt := 8, own := [], keep := fun k => (tlook [] k).getD [], cut := tlook [] }
noncomputable def cod : Code := (Go.Proofs.Tryz.f92.body).getD .skip
theorem nok : namesOk E cod = true := by kernel_rfl
theorem start (a : Int) : evalFn E Go.Proofs.Tryz.f92 cod [D.s (S.sc (Value.int IntKind.i64 a))] = gif (((-9223372036854775808 : Int) ≤ a ∧ a < (9223372036854775808 : Int)) ∧ (-9223372036854775808 : Int) ≤ (0 : Int) ∧ (0 : Int) < (9223372036854775808 : Int)) (gif (((-9223372036854775808 : Int) ≤ a ∧ a < (9223372036854775808 : Int)) ∧ (-9223372036854775808 : Int) ≤ (0 : Int) ∧ (0 : Int) < (9223372036854775808 : Int)) (some [D.agg [S.sc (Value.bool (isNeg (bif inD a (0 : Int) then nrmD a (0 : Int) else ((0 : Int), (0 : Int))).fst)), S.ints IntKind.u64 (M6.dg (bif inD a (0 : Int) then nrmD a (0 : Int) else ((0 : Int), (0 : Int))).fst.natAbs), S.sc (Value.int IntKind.i64 (bif inD a (0 : Int) then nrmD a (0 : Int) else ((0 : Int), (0 : Int))).snd), S.sc (Value.bool (isNeg (bif inD a (0 : Int) then nrmD a (0 : Int) else ((0 : Int), (0 : Int))).fst)), S.ints IntKind.u64 (M6.dg (bif inD a (0 : Int) then nrmD a (0 : Int) else ((0 : Int), (0 : Int))).fst.natAbs), S.sc (Value.int IntKind.i64 (bif inD a (0 : Int) then nrmD a (0 : Int) else ((0 : Int), (0 : Int))).snd)]])) := (evalFn_J rfl nok _).trans (by kernel_rfl)
-- stuck: 0
end UPoint
namespace UPoint
/-- The span of a small whole number, as it lies. -/
def sD (p q : Int × Int) : D := .agg [.sc (.bool (isNeg p.1)), .ints .u64 (M6.dg p.1.natAbs), .sc (.int .i64 p.2), .sc (.bool (isNeg q.1)), .ints .u64 (M6.dg q.1.natAbs), .sc (.int .i64 q.2)]
noncomputable def sp (m : Int) : Prop × List D := (-9223372036854775808 ≤ m ∧ m < 9223372036854775808, [sD (nrmD m 0) (nrmD m 0)])
theorem spec (m : Int) (h : (sp m).1) : evalFn E Tryz.f92 cod [(pN .i64).put m] = some (sp m).2 := by
  have h : -9223372036854775808 ≤ m ∧ m < 9223372036854775808 := h
  refine (start m).trans ?_
  have hb : bl m.natAbs ≤ 64 := bl_le.2 (by omega)
  rw [gP ⟨h, by omega, by omega⟩, gP ⟨h, by omega, by omega⟩]
  have e : (bif inD m 0 then nrmD m 0 else ((0 : Int), (0 : Int))) = nrmD m 0 := by rw [inD_of (by omega) (by omega)]; rfl
  rw [e]
  rfl

noncomputable def orc : Orc := orc1 (pN .i64) sp
theorem fnok : FnOk Tryz.prog E 92 Tryz.f92 cod := fnOk ty_ok mixed (callsOk_of _ rfl (orcs_cons UDyad.ok orcs_nil) (ext_ok)) Tryz.func92 rfl rfl rfl
theorem ok : OrcOk Tryz.prog base.glob 92 orc := fnok.ok1 rfl spec
end UPoint
end Go.Proofs.YtknafopmgaolmaaGreatDoor.W

/- gnomon/turn.Enclose -/
namespace Go.Proofs.YtknafopmgaolmaaGreatDoor.W
open Go Go.Proofs.YtknafopmgaolmaaGreatDoor.AI Go.Proofs.YtknafopmgaolmaaGreatDoor.M
namespace UEnclose
noncomputable def E : Env := { ({ base with C := callsOf [(91, UKnown.orc), (44, BValue.orc), (92, UPoint.orc), (93, UExact0.orc)] }) with nt := 98, own := [33], keep := fun k => (tlook [] k).getD [], cut := tlook [(3, [0, 1, 2, 6])] }
noncomputable def cod : Code := (Go.Proofs.Tryz.f38.body).getD .skip
theorem nok : namesOk E cod = true := by kernel_rfl
noncomputable def J3 (x0 : Int) (x1 : Int) (x2 : Int) (b3 : Bool) (x4 : Int) (b5 : Bool) (x6 : Int) : Option (List D) := ctO E Go.Proofs.Tryz.f38 cod 3 [(A.v (V.one (L.s (S.sc (Value.int IntKind.i64 x0)))), none), (A.v (V.one (L.s (S.sc (Value.int IntKind.u64 x1)))), none), (A.v (V.one (L.s (S.sc (Value.int IntKind.i64 x2)))), none), (A.v (V.one (L.ptr (3 : Nat) (0 : Nat))), some { e := (37 : Nat), cont := Cont.cells [S.sc (Value.bool b3), S.sc (Value.slice none (0 : Nat) (0 : Nat)), S.sc (Value.int IntKind.i64 x4), S.sc (Value.bool b5), S.sc (Value.slice none (0 : Nat) (0 : Nat)), S.sc (Value.int IntKind.i64 x6)] })]
theorem start (a : Int) (b : Int) (c : Int) : evalFn E Go.Proofs.Tryz.f38 cod [D.s (S.sc (Value.int IntKind.i64 a)), D.s (S.sc (Value.int IntKind.u64 b)), D.s (S.sc (Value.int IntKind.i64 c))] = gif True (bcase (!UKnown.knownB a) (some [D.agg [S.sc (Value.bool false), S.sc (Value.slice none (0 : Nat) (0 : Nat)), S.sc (Value.int IntKind.i64 (0 : Int)), S.sc (Value.bool false), S.sc (Value.slice none (0 : Nat) (0 : Nat)), S.sc (Value.int IntKind.i64 (0 : Int))], D.s (S.sc (Value.int IntKind.i64 (1 : Int)))]) (bcase (decide (c < (1 : Int))) (some [D.agg [S.sc (Value.bool false), S.sc (Value.slice none (0 : Nat) (0 : Nat)), S.sc (Value.int IntKind.i64 (0 : Int)), S.sc (Value.bool false), S.sc (Value.slice none (0 : Nat) (0 : Nat)), S.sc (Value.int IntKind.i64 (0 : Int))], D.s (S.sc (Value.int IntKind.i64 (1 : Int)))]) (bcase (decide ((66000 : Int) < c)) (some [D.agg [S.sc (Value.bool false), S.sc (Value.slice none (0 : Nat) (0 : Nat)), S.sc (Value.int IntKind.i64 (0 : Int)), S.sc (Value.bool false), S.sc (Value.slice none (0 : Nat) (0 : Nat)), S.sc (Value.int IntKind.i64 (0 : Int))], D.s (S.sc (Value.int IntKind.i64 (1 : Int)))]) (UEnclose.J3 a b c false (0 : Int) false (0 : Int))))) := (evalFn_J rfl nok _).trans (by kernel_rfl)
theorem J3_eq (x0 : Int) (x1 : Int) (x2 : Int) (b3 : Bool) (x4 : Int) (b5 : Bool) (x6 : Int) : J3 x0 x1 x2 b3 x4 b5 x6 = gif (((64 : Int) = (32 : Int) ∨ (64 : Int) = (64 : Int)) ∧ (0 : Int) ≤ x1 ∧ x1 < (18446744073709551616 : Int))
  (vlet (isNeg (bif BTake.patB (64 : Int) x1 && BFinite.finB (64 : Int) x1 then nrmD (BValue.valZ (64 : Int) x1) (BValue.valE (64 : Int) x1) else ((0 : Int), (0 : Int))).fst) fun y0 ↦
    vlet (M6.dg (bif BTake.patB (64 : Int) x1 && BFinite.finB (64 : Int) x1 then nrmD (BValue.valZ (64 : Int) x1) (BValue.valE (64 : Int) x1) else ((0 : Int), (0 : Int))).fst.natAbs) fun y1 ↦
      vlet (bif BTake.patB (64 : Int) x1 && BFinite.finB (64 : Int) x1 then nrmD (BValue.valZ (64 : Int) x1) (BValue.valE (64 : Int) x1) else ((0 : Int), (0 : Int))).snd fun y2 => vlet (bif BTake.patB (64 : Int) x1 then bif BFinite.finB (64 : Int) x1 then (0 : Int) else (6 : Int) else (2 : Int)) fun y3 => bcase (y3 != (0 : Int)) (some [D.agg [S.sc (Value.bool false), S.sc (Value.slice none (0 : Nat) (0 : Nat)), S.sc (Value.int IntKind.i64 (0 : Int)), S.sc (Value.bool false), S.sc (Value.slice none (0 : Nat) (0 : Nat)), S.sc (Value.int IntKind.i64 (0 : Int))], D.s (S.sc (Value.int IntKind.i64 y3))]) (bcase ((↑y1.length : Int) == (0 : Int)) (bcase (x0 == (5 : Int)) (gif ((-9223372036854775808 : Int) ≤ (1 : Int) ∧ (1 : Int) < (9223372036854775808 : Int)) (vlet (isNeg (nrmD (1 : Int) (0 : Int)).fst) fun y4 => vlet (M6.dg (nrmD (1 : Int) (0 : Int)).fst.natAbs) fun y5 => vlet (nrmD (1 : Int) (0 : Int)).snd fun y6 => vlet (isNeg (nrmD (1 : Int) (0 : Int)).fst) fun y7 => vlet (M6.dg (nrmD (1 : Int) (0 : Int)).fst.natAbs) fun y8 => vlet (nrmD (1 : Int) (0 : Int)).snd fun y9 => some [D.agg [S.sc (Value.bool y4), S.ints IntKind.u64 y5, S.sc (Value.int IntKind.i64 y6), S.sc (Value.bool y7), S.ints IntKind.u64 y8, S.sc (Value.int IntKind.i64 y9)], D.s (S.sc (Value.int IntKind.i64 (0 : Int)))])) (gif ((-9223372036854775808 : Int) ≤ (0 : Int) ∧ (0 : Int) < (9223372036854775808 : Int)) (vlet (isNeg (nrmD (0 : Int) (0 : Int)).fst) fun y10 => vlet (M6.dg (nrmD (0 : Int) (0 : Int)).fst.natAbs) fun y11 => vlet (nrmD (0 : Int) (0 : Int)).snd fun y12 => vlet (isNeg (nrmD (0 : Int) (0 : Int)).fst) fun y13 => vlet (M6.dg (nrmD (0 : Int) (0 : Int)).fst.natAbs) fun y14 => vlet (nrmD (0 : Int) (0 : Int)).snd fun y15 => some [D.agg [S.sc (Value.bool y10), S.ints IntKind.u64 y11, S.sc (Value.int IntKind.i64 y12), S.sc (Value.bool y13), S.ints IntKind.u64 y14, S.sc (Value.int IntKind.i64 y15)], D.s (S.sc (Value.int IntKind.i64 (0 : Int)))]))) (gif (DyOk (y0, y1, y2)) (vlet (UExact0.exV x0 (dv (y0, y1, y2))).fst fun y16 => vlet (UExact0.exV x0 (dv (y0, y1, y2))).snd.fst fun y17 => vlet (UExact0.exV x0 (dv (y0, y1, y2))).snd.snd fun y18 => bcase y18 (bcase (y16 == (2 : Int)) (some [D.agg [S.sc (Value.bool false), S.sc (Value.slice none (0 : Nat) (0 : Nat)), S.sc (Value.int IntKind.i64 (0 : Int)), S.sc (Value.bool false), S.sc (Value.slice none (0 : Nat) (0 : Nat)), S.sc (Value.int IntKind.i64 (0 : Int))], D.s (S.sc (Value.int IntKind.i64 (6 : Int)))]) (bcase y17 (gif ((-9223372036854775808 : Int) ≤ IntKind.i64.wrap ((0 : Int) - y16) ∧ IntKind.i64.wrap ((0 : Int) - y16) < (9223372036854775808 : Int)) (vlet (isNeg (nrmD (IntKind.i64.wrap ((0 : Int) - y16)) (0 : Int)).fst) fun y19 => vlet (M6.dg (nrmD (IntKind.i64.wrap ((0 : Int) - y16)) (0 : Int)).fst.natAbs) fun y20 => vlet (nrmD (IntKind.i64.wrap ((0 : Int) - y16)) (0 : Int)).snd fun y21 => vlet (isNeg (nrmD (IntKind.i64.wrap ((0 : Int) - y16)) (0 : Int)).fst) fun y22 => vlet (M6.dg (nrmD (IntKind.i64.wrap ((0 : Int) - y16)) (0 : Int)).fst.natAbs) fun y23 => vlet (nrmD (IntKind.i64.wrap ((0 : Int) - y16)) (0 : Int)).snd fun y24 => some [D.agg [S.sc (Value.bool y19), S.ints IntKind.u64 y20, S.sc (Value.int IntKind.i64 y21), S.sc (Value.bool y22), S.ints IntKind.u64 y23, S.sc (Value.int IntKind.i64 y24)], D.s (S.sc (Value.int IntKind.i64 (0 : Int)))])) (gif ((-9223372036854775808 : Int) ≤ y16 ∧ y16 < (9223372036854775808 : Int)) (vlet (isNeg (nrmD y16 (0 : Int)).fst) fun y25 => vlet (M6.dg (nrmD y16 (0 : Int)).fst.natAbs) fun y26 => vlet (nrmD y16 (0 : Int)).snd fun y27 => vlet (isNeg (nrmD y16 (0 : Int)).fst) fun y28 => vlet (M6.dg (nrmD y16 (0 : Int)).fst.natAbs) fun y29 => vlet (nrmD y16 (0 : Int)).snd fun y30 => some [D.agg [S.sc (Value.bool y25), S.ints IntKind.u64 y26, S.sc (Value.int IntKind.i64 y27), S.sc (Value.bool y28), S.ints IntKind.u64 y29, S.sc (Value.int IntKind.i64 y30)], D.s (S.sc (Value.int IntKind.i64 (0 : Int)))])))) none)))) := (cutAt_J rfl nok 3 _).trans (by kernel_rfl)
-- stuck: 0
end UEnclose
namespace UEnclose
/-- A span and an error, of an exact case. -/
def encV (fn : Int) (b : Int) : Int := if (UExact.numF 64 b).1 = 0 then (if fn = 5 then 1 else 0) else if (UExact0.exV fn (UExact.numF 64 b)).2.1 = true then -(UExact0.exV fn (UExact.numF 64 b)).1 else (UExact0.exV fn (UExact.numF 64 b)).1
/-- An exact case that is no pole. -/
def EncIn (fn b p : Int) : Prop := UKnown.knownB fn = true ∧ 1 ≤ p ∧ p ≤ 66000 ∧ BFinite.finB 64 b = true ∧ ((UExact.numF 64 b).1 ≠ 0 → (UExact0.exV fn (UExact.numF 64 b)).2.2 = true ∧ (UExact0.exV fn (UExact.numF 64 b)).1 ≠ 2)
noncomputable def sp (fn b p : Int) : Prop × List D := ((0 ≤ b ∧ b < 18446744073709551616) ∧ EncIn fn b p, [UPoint.sD (nrmD (encV fn b) 0) (nrmD (encV fn b) 0), .s (.sc (.int .i64 0))])
theorem spec (fn b p : Int) (h : (sp fn b p).1) : evalFn E Tryz.f38 cod [(pN .i64).put fn, (pN .u64).put b, (pN .i64).put p] = some (sp fn b p).2 := by
  obtain ⟨h, hk, hp1, hp2, hf, hx⟩ := h
  refine (start fn b p).trans ((gP trivial).trans ?_)
  have hp : BTake.patB 64 b = true := rfl
  have e1 : (bif BTake.patB 64 b && BFinite.finB 64 b then nrmD (BValue.valZ 64 b) (BValue.valE 64 b) else ((0 : Int), (0 : Int))) = UExact.numF 64 b := by rw [hp, hf]; rfl
  have e2 : (bif BTake.patB 64 b then bif BFinite.finB 64 b then (0 : Int) else 6 else 2) = 0 := by rw [hp, hf]; rfl
  rw [hk, Bool.not_true, bF, bD_neg (by omega), bD_neg (by omega), J3_eq, gP ⟨.inr rfl, h⟩, e1, e2, vl_dy, vl, bN_neg rfl]
  have hpin := (UExact.numF_pin (.inr rfl) h.1 hf).1
  unfold sp encV
  try dsimp only
  generalize UExact.numF 64 b = q at *
  have hl : (M6.dg q.1.natAbs).length = 0 ↔ q.1 = 0 := by rw [M6.dg_len_zero]; omega
  by_cases hz : q.1 = 0
  · rw [bE_pos (by have := hl.2 hz; omega), if_pos hz]
    by_cases h5 : fn = 5
    · rw [bE_pos h5, if_pos h5, gP (by omega)]; rfl
    · rw [bE_neg h5, if_neg h5, gP (by omega)]; rfl
  · obtain ⟨hx1, hx2⟩ := hx hz
    have hs := UExact.ex_size fn q
    rw [bE_neg (fun h => hz (hl.1 (by omega))), if_neg hz, gP (dyok_of hpin), dv_cells, vl, vl, vl, hx1, bT, bE_neg hx2]
    cases hn : (UExact0.exV fn q).2.1 with
    | false => rw [bF, if_neg (by simp), gP (by omega)]; rfl
    | true => rw [bT, if_pos rfl, wrap_i64 (n := 0 - (UExact0.exV fn q).1) (by omega) (by omega), Int.zero_sub, gP (by omega)]; rfl

noncomputable def orc : Orc := orc3 (pN .i64) (pN .u64) (pN .i64) sp
theorem fnok : FnOk Tryz.prog E 38 Tryz.f38 cod := fnOk ty_ok mixed (callsOk_of _ rfl (orcs_cons UKnown.ok (orcs_cons BValue.ok (orcs_cons UPoint.ok (orcs_cons UExact0.ok orcs_nil)))) (ext_ok)) Tryz.func38 rfl rfl rfl
theorem ok : OrcOk Tryz.prog base.glob 38 orc := fnok.ok3 rfl spec
end UEnclose
end Go.Proofs.YtknafopmgaolmaaGreatDoor.W

/- gnomon/gnomonref01.Same -/
namespace Go.Proofs.YtknafopmgaolmaaGreatDoor.W
open Go Go.Proofs.YtknafopmgaolmaaGreatDoor.AI Go.Proofs.YtknafopmgaolmaaGreatDoor.M
namespace Same
noncomputable def E : Env := { (base) with nt := 26, own := [], keep := fun k => (tlook [(4, [0, 1, 5])] k).getD [], cut := tlook [] }
noncomputable def cod : Code := (Go.Proofs.Tryz.f58.body).getD .skip
theorem nok : namesOk E cod = true := by kernel_rfl
noncomputable def L4 (xs0 : List Int) (xs1 : List Int) (x2 : Int) : Option (List D) := lpO E Go.Proofs.Tryz.f58 cod 4 [(A.v (V.one (L.s (S.ints IntKind.u64 xs0))), none), (A.v (V.one (L.s (S.ints IntKind.u64 xs1))), none), (A.v (V.one (L.s (S.sc (Value.int IntKind.i64 x2)))), none)]
theorem start (a : List Int) (b : List Int) : evalFn E Go.Proofs.Tryz.f58 cod [D.s (S.ints IntKind.u64 a), D.s (S.ints IntKind.u64 b)] = bcase ((↑a.length : Int) != (↑b.length : Int)) (some [D.s (S.sc (Value.bool false))]) (Same.L4 a b (0 : Int)) := (evalFn_J rfl nok _).trans (by kernel_rfl)
theorem L4_eq (xs0 : List Int) (xs1 : List Int) (x2 : Int) : L4 xs0 xs1 x2 = bcase (decide (x2 < (↑xs0.length : Int))) (if (0 : Int) ≤ x2 ∧ x2 < (↑xs0.length : Int) then if (0 : Int) ≤ x2 ∧ x2 < (↑xs1.length : Int) then bcase (xs0.getD x2.toNat (0 : Int) != xs1.getD x2.toNat (0 : Int)) (some [D.s (S.sc (Value.bool false))]) (Same.L4 xs0 xs1 (IntKind.i64.wrap (x2 + (1 : Int)))) else none else none) (some [D.s (S.sc (Value.bool true))]) := (loopAt_J rfl nok 4 _).trans (by kernel_rfl)
-- stuck: 0
end Same
namespace Same
theorem L {a b : List Int} (hl : a.length = b.length) (h : a.length ≤ 4398046511104) : ∀ (d i : Nat), i + d = a.length → a.take i = b.take i → L4 a b (i : Int) = some [D.s (.sc (.bool (decide (a = b))))] := by
  intro d
  induction d with
  | zero =>
    intro i hd hv
    rw [List.take_of_length_le (by omega), List.take_of_length_le (by omega)] at hv
    rw [L4_eq, bD_neg (by omega), decide_eq_true hv]
  | succ d ih =>
    intro i hd hv
    rw [L4_eq, bD_pos (by omega), if_pos (by omega), if_pos (by omega), Int.toNat_natCast]
    have ga : a.getD i 0 = a[i]'(by omega) := by simp [List.getD_eq_getElem?_getD, show i < a.length by omega]
    have gb : b.getD i 0 = b[i]'(by omega) := by simp [List.getD_eq_getElem?_getD, show i < b.length by omega]
    by_cases hc : a.getD i 0 = b.getD i 0
    · rw [bN_neg hc, wrap_i64 (by omega) (by omega)]
      refine ih (i + 1) (by omega) ?_
      rw [List.take_succ_eq_append_getElem (by omega), List.take_succ_eq_append_getElem (by omega), hv, ← ga, ← gb, hc]
    · rw [bN_pos hc, decide_eq_false (fun h => hc (by rw [h]))]
noncomputable def sp (a b : List Int) : Prop × List D := (a.length ≤ 4398046511104 ∧ b.length ≤ 4398046511104, [.s (.sc (.bool (decide (a = b))))])
theorem spec (a b : List Int) (h : (sp a b).1) : evalFn E Tryz.f58 cod [(pI .u64).put a, (pI .u64).put b] = some (sp a b).2 := by
  obtain ⟨h1, h2⟩ := h
  refine (start a b).trans ?_
  by_cases hl : a.length = b.length
  · rw [bN_neg (by omega)]
    exact L hl h1 a.length 0 (by omega) rfl
  · rw [bN_pos (by omega)]
    unfold sp
    rw [decide_eq_false (fun h => hl (by rw [h]))]

noncomputable def orc : Orc := orc2 (pI .u64) (pI .u64) sp
theorem fnok : FnOk Tryz.prog E 58 Tryz.f58 cod := fnOk ty_ok mixed (callsOk_of _ rfl orcs_nil (ext_ok)) Tryz.func58 rfl rfl rfl
theorem ok : OrcOk Tryz.prog base.glob 58 orc := fnok.ok2 rfl spec
end Same
end Go.Proofs.YtknafopmgaolmaaGreatDoor.W

/- gnomon/gnomonref05.Same -/
namespace Go.Proofs.YtknafopmgaolmaaGreatDoor.W
open Go Go.Proofs.YtknafopmgaolmaaGreatDoor.AI Go.Proofs.YtknafopmgaolmaaGreatDoor.M
namespace Same5
noncomputable def E : Env := { ({ base with C := callsOf [(58, Same.orc)] }) with nt := 28, own := [26], keep := fun k => (tlook [] k).getD [], cut := tlook [] }
noncomputable def cod : Code := (Go.Proofs.Tryz.f48.body).getD .skip
theorem nok : namesOk E cod = true := by kernel_rfl
theorem start (a1 : Bool) (a2 : List Int) (a3 : Int) (b1 : Bool) (b2 : List Int) (b3 : Int) : evalFn E Go.Proofs.Tryz.f48 cod [D.agg [S.sc (Value.bool a1), S.ints IntKind.u64 a2, S.sc (Value.int IntKind.i64 a3)], D.agg [S.sc (Value.bool b1), S.ints IntKind.u64 b2, S.sc (Value.int IntKind.i64 b3)]] = bcase (a1 == b1) (bcase (a3 == b3) (gif (a2.length ≤ (4398046511104 : Nat) ∧ b2.length ≤ (4398046511104 : Nat)) (some [D.s (S.sc (Value.bool (decide (a2 = b2))))])) (some [D.s (S.sc (Value.bool false))])) (some [D.s (S.sc (Value.bool false))]) := (evalFn_J rfl nok _).trans (by kernel_rfl)
-- stuck: 0
end Same5
namespace Same5
noncomputable def sp (x y : Bool × List Int × Int) : Prop × List D := (DyOk x ∧ DyOk y, [.s (.sc (.bool (decide (dv x = dv y))))])
theorem same_iff {x y : Bool × List Int × Int} (hx : DyOk x) (hy : DyOk y) : dv x = dv y ↔ x = y := by
  constructor
  · intro h
    have e := congrArg M.dD h
    rw [hx.dD, hy.dD] at e
    obtain ⟨b, a, e1⟩ := x
    obtain ⟨c, d, f⟩ := y
    simp at e
    obtain ⟨h1, h2, h3⟩ := e
    rw [h1, h2, h3]
  · intro h; rw [h]
theorem spec (x y : Bool × List Int × Int) (h : (sp x y).1) : evalFn E Tryz.f48 cod [(pG (.pair sB (.pair (sI .u64) (sN .i64)))).put x, (pG (.pair sB (.pair (sI .u64) (sN .i64)))).put y] = some (sp x y).2 := by
  obtain ⟨hx, hy⟩ := h
  refine (start x.1 x.2.1 x.2.2 y.1 y.2.1 y.2.2).trans ?_
  have lx := hx.len
  have ly := hy.len
  have hs := same_iff hx hy
  show _ = some [D.s (.sc (.bool (decide (dv x = dv y))))]
  obtain ⟨b, a, e⟩ := x
  obtain ⟨c, d, f⟩ := y
  try dsimp only at *
  by_cases h1 : b = c
  · subst h1
    rw [bB_pos (by simp)]
    by_cases h2 : e = f
    · rw [bE_pos h2, gP (by omega)]
      subst h2
      by_cases h3 : a = d
      · rw [decide_eq_true h3, decide_eq_true (hs.2 (by rw [h3]))]
      · rw [decide_eq_false h3, decide_eq_false (fun h => h3 (by have := hs.1 h; simpa using this))]
    · rw [bE_neg h2, decide_eq_false (fun h => h2 (by have := hs.1 h; simp at this; exact this.2))]
  · rw [bB_neg (by simpa using h1), decide_eq_false (fun h => h1 (by have := hs.1 h; simp at this; exact this.1))]

noncomputable def orc : Orc := orc2 (pG (.pair sB (.pair (sI .u64) (sN .i64)))) (pG (.pair sB (.pair (sI .u64) (sN .i64)))) sp
theorem fnok : FnOk Tryz.prog E 48 Tryz.f48 cod := fnOk ty_ok mixed (callsOk_of _ rfl (orcs_cons Same.ok orcs_nil) (ext_ok)) Tryz.func48 rfl rfl rfl
theorem ok : OrcOk Tryz.prog base.glob 48 orc := fnok.ok2 rfl spec
end Same5
end Go.Proofs.YtknafopmgaolmaaGreatDoor.W

/- gnomon/gnomonlaw17.same -/
namespace Go.Proofs.YtknafopmgaolmaaGreatDoor.W
open Go Go.Proofs.YtknafopmgaolmaaGreatDoor.AI Go.Proofs.YtknafopmgaolmaaGreatDoor.M
namespace LSame
noncomputable def E : Env := { ({ base with C := callsOf [(48, Same5.orc)] }) with nt := 17, own := [15], keep := fun k => (tlook [] k).getD [], cut := tlook [] }
noncomputable def cod : Code := (Go.Proofs.Tryz.f87.body).getD .skip
theorem nok : namesOk E cod = true := by kernel_rfl
theorem start (a1 : Bool) (a2 : List Int) (a3 : Int) (a4 : Bool) (a5 : List Int) (a6 : Int) (b1 : Bool) (b2 : List Int) (b3 : Int) (b4 : Bool) (b5 : List Int) (b6 : Int) : evalFn E Go.Proofs.Tryz.f87 cod [D.agg [S.sc (Value.bool a1), S.ints IntKind.u64 a2, S.sc (Value.int IntKind.i64 a3), S.sc (Value.bool a4), S.ints IntKind.u64 a5, S.sc (Value.int IntKind.i64 a6)], D.agg [S.sc (Value.bool b1), S.ints IntKind.u64 b2, S.sc (Value.int IntKind.i64 b3), S.sc (Value.bool b4), S.ints IntKind.u64 b5, S.sc (Value.int IntKind.i64 b6)]] = gif (DyOk (a1, a2, a3) ∧ DyOk (b1, b2, b3)) (bcase (decide (dv (a1, a2, a3) = dv (b1, b2, b3))) (gif (DyOk (a4, a5, a6) ∧ DyOk (b4, b5, b6)) (some [D.s (S.sc (Value.bool (decide (dv (a4, a5, a6) = dv (b4, b5, b6)))))])) (some [D.s (S.sc (Value.bool false))])) := (evalFn_J rfl nok _).trans (by kernel_rfl)
-- stuck: 0
end LSame
namespace LSame
abbrev Spt := Bool × List Int × Int × Bool × List Int × Int
def lo (x : Spt) : Dyt := (x.1, x.2.1, x.2.2.1)
def hi (x : Spt) : Dyt := (x.2.2.2.1, x.2.2.2.2.1, x.2.2.2.2.2)
noncomputable def sp (x y : Spt) : Prop × List D := ((DyOk (lo x) ∧ DyOk (lo y)) ∧ DyOk (hi x) ∧ DyOk (hi y), [.s (.sc (.bool (decide (dv (lo x) = dv (lo y)) && decide (dv (hi x) = dv (hi y)))))])
theorem spec (x y : Spt) (h : (sp x y).1) : evalFn E Tryz.f87 cod [(pG (.pair sB (.pair (sI .u64) (.pair (sN .i64) (.pair sB (.pair (sI .u64) (sN .i64))))))).put x, (pG (.pair sB (.pair (sI .u64) (.pair (sN .i64) (.pair sB (.pair (sI .u64) (sN .i64))))))).put y] = some (sp x y).2 := by
  obtain ⟨h1, h2⟩ := h
  refine (start x.1 x.2.1 x.2.2.1 x.2.2.2.1 x.2.2.2.2.1 x.2.2.2.2.2 y.1 y.2.1 y.2.2.1 y.2.2.2.1 y.2.2.2.2.1 y.2.2.2.2.2).trans ((gP h1).trans ?_)
  by_cases hc : dv (lo x) = dv (lo y)
  · have : decide (dv (x.1, x.2.1, x.2.2.1) = dv (y.1, y.2.1, y.2.2.1)) = true := decide_eq_true hc
    rw [this, bT]
    refine (gP h2).trans ?_
    unfold sp
    rw [decide_eq_true hc, Bool.true_and]
    rfl
  · have : decide (dv (x.1, x.2.1, x.2.2.1) = dv (y.1, y.2.1, y.2.2.1)) = false := decide_eq_false hc
    rw [this, bF]
    unfold sp
    rw [decide_eq_false hc, Bool.false_and]

noncomputable def orc : Orc := orc2 (pG (.pair sB (.pair (sI .u64) (.pair (sN .i64) (.pair sB (.pair (sI .u64) (sN .i64))))))) (pG (.pair sB (.pair (sI .u64) (.pair (sN .i64) (.pair sB (.pair (sI .u64) (sN .i64))))))) sp
theorem fnok : FnOk Tryz.prog E 87 Tryz.f87 cod := fnOk ty_ok mixed (callsOk_of _ rfl (orcs_cons Same5.ok orcs_nil) (ext_ok)) Tryz.func87 rfl rfl rfl
theorem ok : OrcOk Tryz.prog base.glob 87 orc := fnok.ok2 rfl spec
end LSame
end Go.Proofs.YtknafopmgaolmaaGreatDoor.W

/- gnomon/gnomonref01.Norm -/
namespace Go.Proofs.YtknafopmgaolmaaGreatDoor.W
open Go Go.Proofs.YtknafopmgaolmaaGreatDoor.AI Go.Proofs.YtknafopmgaolmaaGreatDoor.M
namespace Norm
noncomputable def E : Env := { (base) with nt := 27, own := [], keep := fun k => (tlook [(2, [0, 3])] k).getD [], cut := tlook [(4, [0, 3])] }
noncomputable def cod : Code := (Go.Proofs.Tryz.f125.body).getD .skip
theorem nok : namesOk E cod = true := by kernel_rfl
noncomputable def L2 (xs0 : List Int) (x1 : Int) : Option (List D) := lpO E Go.Proofs.Tryz.f125 cod 2 [(A.v (V.one (L.s (S.ints IntKind.u32 xs0))), none), (A.v (V.one (L.s (S.sc (Value.int IntKind.i64 x1)))), none)]
noncomputable def J4 (xs0 : List Int) (x1 : Int) : Option (List D) := ctO E Go.Proofs.Tryz.f125 cod 4 [(A.v (V.one (L.s (S.ints IntKind.u32 xs0))), none), (A.v (V.one (L.s (S.sc (Value.int IntKind.i64 x1)))), none)]
theorem start (a : List Int) : evalFn E Go.Proofs.Tryz.f125 cod [D.s (S.ints IntKind.u32 a)] = Norm.L2 a (↑a.length : Int) := (evalFn_J rfl nok _).trans (by kernel_rfl)
theorem L2_eq (xs0 : List Int) (x1 : Int) : L2 xs0 x1 = bcase (decide ((0 : Int) < x1)) (if (0 : Int) ≤ IntKind.i64.wrap (x1 - (1 : Int)) ∧ IntKind.i64.wrap (x1 - (1 : Int)) < (↑xs0.length : Int) then bcase (xs0.getD (IntKind.i64.wrap (x1 - (1 : Int))).toNat (0 : Int) == (0 : Int)) (Norm.L2 xs0 (IntKind.i64.wrap (x1 - (1 : Int)))) (Norm.J4 xs0 x1) else none) (Norm.J4 xs0 x1) := (loopAt_J rfl nok 2 _).trans (by kernel_rfl)
theorem J4_eq (xs0 : List Int) (x1 : Int) : J4 xs0 x1 = if (0 : Int) ≤ x1 ∧ x1 ≤ x1 ∧ x1 ≤ (8796093022208 : Int) then if (0 : Int) ≤ (0 : Int) ∧ (0 : Int) ≤ x1 ∧ x1 ≤ (↑xs0.length : Int) then some [D.own (163 : Nat) IntKind.u32 (List.take x1.toNat (List.drop (0 : Nat) (List.take x1.toNat xs0)) ++ List.drop (min (List.drop (0 : Nat) (List.take x1.toNat xs0)).length x1.toNat) (List.replicate x1.toNat (0 : Int)))] else none else none := (cutAt_J rfl nok 4 _).trans (by kernel_rfl)
-- stuck: 0
end Norm
namespace Norm
theorem J {xs : List Int} {n : Nat} (h : n ≤ xs.length) (hl : xs.length ≤ 4398046511104) : J4 xs n = some [D.own tU32 .u32 (xs.take n)] := by
  rw [J4_eq, if_pos (by omega), if_pos (by omega)]
  simp only [Int.toNat_natCast]
  rw [copy_all h]

theorem L {xs : List Int} (hd : Dig xs) (hl : xs.length ≤ 4398046511104) : ∀ n : Nat, n ≤ xs.length → L2 xs n = some [D.own tU32 .u32 (dg (val (xs.take n)))]
  | 0, h => by
    rw [L2_eq]
    simp only [bcase, Int.natCast_zero, Int.lt_irrefl, decide_false, cond_false]
    rw [show ((0 : Int)) = ((0 : Nat) : Int) from rfl, J (by omega) hl]
    simp [val, dg_zero]
  | n + 1, h => by
    rw [L2_eq]
    have e : IntKind.i64.wrap (((n + 1 : Nat) : Int) - 1) = (n : Int) := by rw [wrap_i64 (by omega) (by omega)]; omega
    rw [e]
    have e2 : decide ((0 : Int) < ((n + 1 : Nat) : Int)) = true   := by simp
    simp only [bcase, e2, cond_true, Int.toNat_natCast]
    rw [if_pos (by omega)]
    cases hz : xs.getD n 0 == 0 with
    | true =>
      have hz := eq_of_beq hz
      simp only [cond_true]
      rw [L hd hl n (by omega), val_take_succ (by omega), hz]
      simp
    | false =>
      have hz : xs.getD n 0 ≠ 0 := by simpa using hz
      simp only [cond_false]
      rw [J h hl]
      have : Nrm (xs.take (n + 1)) := nrm_of (hd.take _) fun d hg => by
        rw [getLast_take (by omega)] at hg
        cases hg
        exact hz
      rw [← this]

noncomputable def sp (a : List Int) : Prop × List D := (Dig a ∧ a.length ≤ 4398046511104, [.own tU32 .u32 (dg (val a))])
theorem spec (a : List Int) (h : (sp a).1) : evalFn E Tryz.f125 cod [(pI .u32).put a] = some (sp a).2 := by
  obtain ⟨hd, hl⟩ := h
  refine (start a).trans ?_
  rw [L hd hl a.length (Nat.le_refl _), List.take_length]
  rfl

noncomputable def orc : Orc := orc1 (pI .u32) sp
theorem fnok : FnOk Tryz.prog E 125 Tryz.f125 cod := fnOk ty_ok mixed (callsOk_of _ rfl orcs_nil (ext_ok)) Tryz.func125 rfl rfl rfl
theorem ok : OrcOk Tryz.prog base.glob 125 orc := fnok.ok1 rfl spec
end Norm
end Go.Proofs.YtknafopmgaolmaaGreatDoor.W

/- gnomon/gnomonref04.Mk -/
namespace Go.Proofs.YtknafopmgaolmaaGreatDoor.W
open Go Go.Proofs.YtknafopmgaolmaaGreatDoor.AI Go.Proofs.YtknafopmgaolmaaGreatDoor.M
namespace Mk
noncomputable def E : Env := { ({ base with C := callsOf [(125, Norm.orc)] }) with nt := 16, own := [], keep := fun k => (tlook [] k).getD [], cut := tlook [] }
noncomputable def cod : Code := (Go.Proofs.Tryz.f131.body).getD .skip
theorem nok : namesOk E cod = true := by kernel_rfl
theorem start (a : Bool) (b : List Int) : evalFn E Go.Proofs.Tryz.f131 cod [D.s (S.sc (Value.bool a)), D.s (S.ints IntKind.u32 b)] = gif (Dig b ∧ b.length ≤ (4398046511104 : Nat)) (bcase a (some [D.agg [S.sc (Value.bool (decide ((0 : Int) < (↑(dg (val b)).length : Int)))), S.ints IntKind.u32 (dg (val b))]]) (some [D.agg [S.sc (Value.bool false), S.ints IntKind.u32 (dg (val b))]])) := (evalFn_J rfl nok _).trans (by kernel_rfl)
-- stuck: 0
end Mk
namespace Mk
noncomputable def sp (b : Bool) (m : List Int) : Prop × List D := (Dig m ∧ m.length ≤ 4398046511104, [zD (zs b (val m))])
theorem spec (b : Bool) (m : List Int) (h : (sp b m).1) : evalFn E Tryz.f131 cod [pB.put b, (pI .u32).put m] = some (sp b m).2 := by
  refine (start b m).trans ((gP h).trans ?_)
  unfold sp
  simp only [zD_zs]
  cases b with
  | false => rfl
  | true =>
    rw [bT]
    have : decide (0 < ((dg (val m)).length : Int)) = decide (val m ≠ 0) := by
      by_cases h : val m = 0
      · rw [h, dg_zero]; rfl
      · rw [decide_eq_true h, decide_eq_true]
        have : (dg (val m)).length ≠ 0 := fun hh => h (dg_len_zero.1 hh)
        omega
    rw [this]; rfl

noncomputable def orc : Orc := orc2 pB (pI .u32) sp
theorem fnok : FnOk Tryz.prog E 131 Tryz.f131 cod := fnOk ty_ok mixed (callsOk_of _ rfl (orcs_cons Norm.ok orcs_nil) (ext_ok)) Tryz.func131 rfl rfl rfl
theorem ok : OrcOk Tryz.prog base.glob 131 orc := fnok.ok2 rfl spec
end Mk
end Go.Proofs.YtknafopmgaolmaaGreatDoor.W

