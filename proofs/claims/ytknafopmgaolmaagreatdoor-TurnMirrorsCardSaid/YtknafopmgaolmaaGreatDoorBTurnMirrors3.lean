/- Texts of the claim on TurnMirrors, in their order: FLen64, FNBits, FNShl, FMWhole, FMTold, FMShl, FNAdd, FNCmp, FNSub, FMAdd, FTz64, FNTrail, FNShr, FDMake, FDAdd, FDScale, FNBit, FMMore, FNWord, FMMade, FMShr, FMFloorShr, FDCut, FDGrid, FMSign, FDTop, FDSize, FDCmp, D0, FBShape, FBSign, FBTake, FBHidden, FBInf, FBFinite, FBParts, FBNumber, FBValue, FMOf, FUDyad, FDDownAt, FDNeg, FDSub, M7, FNNorm, FLz64. -/
import Derived.Test.YtknafopmgaolmaaGreatDoorBTurnMirrors2
/- math/bits.Len64 -/
namespace Go.Proofs.YtknafopmgaolmaaGreatDoor.W
open Go Go.Proofs.YtknafopmgaolmaaGreatDoor.AI Go.Proofs.YtknafopmgaolmaaGreatDoor.M
namespace Len64
noncomputable def E : Env := { (base) with nt := 25, own := [], keep := fun k => (tlook [] k).getD [], cut := tlook [(4, [0, 2]), (7, [0, 2])] }
noncomputable def cod : Code := (Go.Proofs.Tryz.f209.body).getD .skip
theorem nok : namesOk E cod = true := by kernel_rfl
noncomputable def J4 (x0 : Int) (x1 : Int) : Option (List D) := ctO E Go.Proofs.Tryz.f209 cod 4 [(A.v (V.one (L.s (S.sc (Value.int IntKind.u64 x0)))), none), (A.v (V.one (L.s (S.sc (Value.int IntKind.i64 x1)))), none)]
noncomputable def J7 (x0 : Int) (x1 : Int) : Option (List D) := ctO E Go.Proofs.Tryz.f209 cod 7 [(A.v (V.one (L.s (S.sc (Value.int IntKind.u64 x0)))), none), (A.v (V.one (L.s (S.sc (Value.int IntKind.i64 x1)))), none)]
theorem start (a : Int) : evalFn E Go.Proofs.Tryz.f209 cod [D.s (S.sc (Value.int IntKind.u64 a))] = bcase (decide ((4294967296 : Int) ≤ a)) (Len64.J4 (a / (4294967296 : Int)) (32 : Int)) (Len64.J4 a (0 : Int)) := (evalFn_J rfl nok _).trans (by kernel_rfl)
theorem J4_eq (x0 : Int) (x1 : Int) : J4 x0 x1 = bcase (decide ((65536 : Int) ≤ x0)) (Len64.J7 (x0 / (65536 : Int)) (IntKind.i64.wrap (x1 + (16 : Int)))) (Len64.J7 x0 x1) := (cutAt_J rfl nok 4 _).trans (by kernel_rfl)
theorem J7_eq (x0 : Int) (x1 : Int) : J7 x0 x1 = bcase (decide ((256 : Int) ≤ x0))
  (if (0 : Int) ≤ IntKind.u8.wrap (x0 / (256 : Int)) ∧ IntKind.u8.wrap (x0 / (256 : Int)) < (256 : Int) then
    some
      [D.s
          (S.sc
            (Value.int IntKind.i64
              (IntKind.i64.wrap
                (IntKind.i64.wrap (x1 + (8 : Int)) +
                  IntKind.i64.wrap
                    (strAt
                      {
                        data :=
                          ((0 : UInt8) ::
                              ((1 : UInt8) ::
                                    [(2 : UInt8), { toBitVec := BitVec.ofNat (8 : Nat) (2 : Nat) }, (3 : UInt8), { toBitVec := BitVec.ofNat (8 : Nat) (3 : Nat) }, (3 : UInt8), { toBitVec := BitVec.ofNat (8 : Nat) (3 : Nat) }, (4 : UInt8), { toBitVec := BitVec.ofNat (8 : Nat) (4 : Nat) }, (4 : UInt8), { toBitVec := BitVec.ofNat (8 : Nat) (4 : Nat) }, (4 : UInt8), { toBitVec := BitVec.ofNat (8 : Nat) (4 : Nat) }, (4 : UInt8), { toBitVec := BitVec.ofNat (8 : Nat) (4 : Nat) }, (5 : UInt8), { toBitVec := BitVec.ofNat (8 : Nat) (5 : Nat) }, (5 : UInt8), { toBitVec := BitVec.ofNat (8 : Nat) (5 : Nat) }, (5 : UInt8), { toBitVec := BitVec.ofNat (8 : Nat) (5 : Nat) }, (5 : UInt8), { toBitVec := BitVec.ofNat (8 : Nat) (5 : Nat) }, (5 : UInt8), { toBitVec := BitVec.ofNat (8 : Nat) (5 : Nat) }, (5 : UInt8), { toBitVec := BitVec.ofNat (8 : Nat) (5 : Nat) }, (5 : UInt8), { toBitVec := BitVec.ofNat (8 : Nat) (5 : Nat) }, (5 : UInt8), { toBitVec := BitVec.ofNat (8 : Nat) (5 : Nat) }, (6 : UInt8), { toBitVec := BitVec.ofNat (8 : Nat) (6 : Nat) }, (6 : UInt8), { toBitVec := BitVec.ofNat (8 : Nat) (6 : Nat) }, (6 : UInt8), { toBitVec := BitVec.ofNat (8 : Nat) (6 : Nat) }, (6 : UInt8), { toBitVec := BitVec.ofNat (8 : Nat) (6 : Nat) }, (6 : UInt8), { toBitVec := BitVec.ofNat (8 : Nat) (6 : Nat) }, (6 : UInt8), { toBitVec := BitVec.ofNat (8 : Nat) (6 : Nat) }, (6 : UInt8), { toBitVec := BitVec.ofNat (8 : Nat) (6 : Nat) }, (6 : UInt8), { toBitVec := BitVec.ofNat (8 : Nat) (6 : Nat) }, (6 : UInt8), { toBitVec := BitVec.ofNat (8 : Nat) (6 : Nat) }, (6 : UInt8), { toBitVec := BitVec.ofNat (8 : Nat) (6 : Nat) }, (6 : UInt8), { toBitVec := BitVec.ofNat (8 : Nat) (6 : Nat) }, (6 : UInt8), { toBitVec := BitVec.ofNat (8 : Nat) (6 : Nat) }, (6 : UInt8), { toBitVec := BitVec.ofNat (8 : Nat) (6 : Nat) }, (6 : UInt8), { toBitVec := BitVec.ofNat (8 : Nat) (6 : Nat) }, (6 : UInt8), { toBitVec := BitVec.ofNat (8 : Nat) (6 : Nat) }, (6 : UInt8), { toBitVec := BitVec.ofNat (8 : Nat) (6 : Nat) }].append
                                      [(7 : UInt8), { toBitVec := BitVec.ofNat (8 : Nat) (7 : Nat) }, (7 : UInt8), { toBitVec := BitVec.ofNat (8 : Nat) (7 : Nat) }, (7 : UInt8), { toBitVec := BitVec.ofNat (8 : Nat) (7 : Nat) }, (7 : UInt8), { toBitVec := BitVec.ofNat (8 : Nat) (7 : Nat) }, (7 : UInt8), { toBitVec := BitVec.ofNat (8 : Nat) (7 : Nat) }, (7 : UInt8), { toBitVec := BitVec.ofNat (8 : Nat) (7 : Nat) }, (7 : UInt8), { toBitVec := BitVec.ofNat (8 : Nat) (7 : Nat) }, (7 : UInt8), { toBitVec := BitVec.ofNat (8 : Nat) (7 : Nat) }, (7 : UInt8), { toBitVec := BitVec.ofNat (8 : Nat) (7 : Nat) }, (7 : UInt8), { toBitVec := BitVec.ofNat (8 : Nat) (7 : Nat) }, (7 : UInt8), { toBitVec := BitVec.ofNat (8 : Nat) (7 : Nat) }, (7 : UInt8), { toBitVec := BitVec.ofNat (8 : Nat) (7 : Nat) }, (7 : UInt8), { toBitVec := BitVec.ofNat (8 : Nat) (7 : Nat) }, (7 : UInt8), { toBitVec := BitVec.ofNat (8 : Nat) (7 : Nat) }, (7 : UInt8), { toBitVec := BitVec.ofNat (8 : Nat) (7 : Nat) }, (7 : UInt8), { toBitVec := BitVec.ofNat (8 : Nat) (7 : Nat) }, (7 : UInt8), { toBitVec := BitVec.ofNat (8 : Nat) (7 : Nat) }, (7 : UInt8), { toBitVec := BitVec.ofNat (8 : Nat) (7 : Nat) }, (7 : UInt8), { toBitVec := BitVec.ofNat (8 : Nat) (7 : Nat) }, (7 : UInt8), { toBitVec := BitVec.ofNat (8 : Nat) (7 : Nat) }, (7 : UInt8), { toBitVec := BitVec.ofNat (8 : Nat) (7 : Nat) }, (7 : UInt8), { toBitVec := BitVec.ofNat (8 : Nat) (7 : Nat) }, (7 : UInt8), { toBitVec := BitVec.ofNat (8 : Nat) (7 : Nat) }, (7 : UInt8), { toBitVec := BitVec.ofNat (8 : Nat) (7 : Nat) }, (7 : UInt8), { toBitVec := BitVec.ofNat (8 : Nat) (7 : Nat) }, (7 : UInt8), { toBitVec := BitVec.ofNat (8 : Nat) (7 : Nat) }, (7 : UInt8), { toBitVec := BitVec.ofNat (8 : Nat) (7 : Nat) }, (7 : UInt8), { toBitVec := BitVec.ofNat (8 : Nat) (7 : Nat) }, (7 : UInt8), { toBitVec := BitVec.ofNat (8 : Nat) (7 : Nat) }, (7 : UInt8), { toBitVec := BitVec.ofNat (8 : Nat) (7 : Nat) }, (7 : UInt8), { toBitVec := BitVec.ofNat (8 : Nat) (7 : Nat) }, (7 : UInt8), { toBitVec := BitVec.ofNat (8 : Nat) (7 : Nat) }]).append
                                ((8 : UInt8) ::
                                  [(8 : UInt8), { toBitVec := BitVec.ofNat (8 : Nat) (8 : Nat) }, (8 : UInt8), { toBitVec := BitVec.ofNat (8 : Nat) (8 : Nat) }, (8 : UInt8), { toBitVec := BitVec.ofNat (8 : Nat) (8 : Nat) }, (8 : UInt8), { toBitVec := BitVec.ofNat (8 : Nat) (8 : Nat) }, (8 : UInt8), { toBitVec := BitVec.ofNat (8 : Nat) (8 : Nat) }, (8 : UInt8), { toBitVec := BitVec.ofNat (8 : Nat) (8 : Nat) }, (8 : UInt8), { toBitVec := BitVec.ofNat (8 : Nat) (8 : Nat) }, (8 : UInt8), { toBitVec := BitVec.ofNat (8 : Nat) (8 : Nat) }, (8 : UInt8), { toBitVec := BitVec.ofNat (8 : Nat) (8 : Nat) }, (8 : UInt8), { toBitVec := BitVec.ofNat (8 : Nat) (8 : Nat) }, (8 : UInt8), { toBitVec := BitVec.ofNat (8 : Nat) (8 : Nat) }, (8 : UInt8), { toBitVec := BitVec.ofNat (8 : Nat) (8 : Nat) }, (8 : UInt8), { toBitVec := BitVec.ofNat (8 : Nat) (8 : Nat) }, (8 : UInt8), { toBitVec := BitVec.ofNat (8 : Nat) (8 : Nat) }, (8 : UInt8), { toBitVec := BitVec.ofNat (8 : Nat) (8 : Nat) }, (8 : UInt8), { toBitVec := BitVec.ofNat (8 : Nat) (8 : Nat) }, (8 : UInt8), { toBitVec := BitVec.ofNat (8 : Nat) (8 : Nat) }, (8 : UInt8), { toBitVec := BitVec.ofNat (8 : Nat) (8 : Nat) }, (8 : UInt8), { toBitVec := BitVec.ofNat (8 : Nat) (8 : Nat) }, (8 : UInt8), { toBitVec := BitVec.ofNat (8 : Nat) (8 : Nat) }, (8 : UInt8), { toBitVec := BitVec.ofNat (8 : Nat) (8 : Nat) }, (8 : UInt8), { toBitVec := BitVec.ofNat (8 : Nat) (8 : Nat) }, (8 : UInt8), { toBitVec := BitVec.ofNat (8 : Nat) (8 : Nat) }, (8 : UInt8), { toBitVec := BitVec.ofNat (8 : Nat) (8 : Nat) }, (8 : UInt8), { toBitVec := BitVec.ofNat (8 : Nat) (8 : Nat) }, (8 : UInt8), { toBitVec := BitVec.ofNat (8 : Nat) (8 : Nat) }, (8 : UInt8), { toBitVec := BitVec.ofNat (8 : Nat) (8 : Nat) }, (8 : UInt8), { toBitVec := BitVec.ofNat (8 : Nat) (8 : Nat) }, (8 : UInt8), { toBitVec := BitVec.ofNat (8 : Nat) (8 : Nat) }, (8 : UInt8), { toBitVec := BitVec.ofNat (8 : Nat) (8 : Nat) }, (8 : UInt8), { toBitVec := BitVec.ofNat (8 : Nat) (8 : Nat) }, (8 : UInt8)].append
                                    [(8 : UInt8), { toBitVec := BitVec.ofNat (8 : Nat) (8 : Nat) }, (8 : UInt8), { toBitVec := BitVec.ofNat (8 : Nat) (8 : Nat) }, (8 : UInt8), { toBitVec := BitVec.ofNat (8 : Nat) (8 : Nat) }, (8 : UInt8), { toBitVec := BitVec.ofNat (8 : Nat) (8 : Nat) }, (8 : UInt8), { toBitVec := BitVec.ofNat (8 : Nat) (8 : Nat) }, (8 : UInt8), { toBitVec := BitVec.ofNat (8 : Nat) (8 : Nat) }, (8 : UInt8), { toBitVec := BitVec.ofNat (8 : Nat) (8 : Nat) }, (8 : UInt8), { toBitVec := BitVec.ofNat (8 : Nat) (8 : Nat) }, (8 : UInt8), { toBitVec := BitVec.ofNat (8 : Nat) (8 : Nat) }, (8 : UInt8), { toBitVec := BitVec.ofNat (8 : Nat) (8 : Nat) }, (8 : UInt8), { toBitVec := BitVec.ofNat (8 : Nat) (8 : Nat) }, (8 : UInt8), { toBitVec := BitVec.ofNat (8 : Nat) (8 : Nat) }, (8 : UInt8), { toBitVec := BitVec.ofNat (8 : Nat) (8 : Nat) }, (8 : UInt8), { toBitVec := BitVec.ofNat (8 : Nat) (8 : Nat) }, (8 : UInt8), { toBitVec := BitVec.ofNat (8 : Nat) (8 : Nat) }, (8 : UInt8), { toBitVec := BitVec.ofNat (8 : Nat) (8 : Nat) }, (8 : UInt8), { toBitVec := BitVec.ofNat (8 : Nat) (8 : Nat) }, (8 : UInt8), { toBitVec := BitVec.ofNat (8 : Nat) (8 : Nat) }, (8 : UInt8), { toBitVec := BitVec.ofNat (8 : Nat) (8 : Nat) }, (8 : UInt8), { toBitVec := BitVec.ofNat (8 : Nat) (8 : Nat) }, (8 : UInt8), { toBitVec := BitVec.ofNat (8 : Nat) (8 : Nat) }, (8 : UInt8), { toBitVec := BitVec.ofNat (8 : Nat) (8 : Nat) }, (8 : UInt8), { toBitVec := BitVec.ofNat (8 : Nat) (8 : Nat) }, (8 : UInt8), { toBitVec := BitVec.ofNat (8 : Nat) (8 : Nat) }, (8 : UInt8), { toBitVec := BitVec.ofNat (8 : Nat) (8 : Nat) }, (8 : UInt8), { toBitVec := BitVec.ofNat (8 : Nat) (8 : Nat) }, (8 : UInt8), { toBitVec := BitVec.ofNat (8 : Nat) (8 : Nat) }, (8 : UInt8), { toBitVec := BitVec.ofNat (8 : Nat) (8 : Nat) }, (8 : UInt8), { toBitVec := BitVec.ofNat (8 : Nat) (8 : Nat) }, (8 : UInt8), { toBitVec := BitVec.ofNat (8 : Nat) (8 : Nat) }, (8 : UInt8), { toBitVec := BitVec.ofNat (8 : Nat) (8 : Nat) }, (8 : UInt8), { toBitVec := BitVec.ofNat (8 : Nat) (8 : Nat) }])).toArray }
                      (IntKind.u8.wrap (x0 / (256 : Int))))))))]
  else none)
  (if (0 : Int) ≤ IntKind.u8.wrap x0 ∧ IntKind.u8.wrap x0 < (256 : Int) then
    some
      [D.s
          (S.sc
            (Value.int IntKind.i64
              (IntKind.i64.wrap
                (x1 +
                  IntKind.i64.wrap
                    (strAt
                      {
                        data :=
                          ((0 : UInt8) ::
                              ((1 : UInt8) ::
                                    [(2 : UInt8), { toBitVec := BitVec.ofNat (8 : Nat) (2 : Nat) }, (3 : UInt8), { toBitVec := BitVec.ofNat (8 : Nat) (3 : Nat) }, (3 : UInt8), { toBitVec := BitVec.ofNat (8 : Nat) (3 : Nat) }, (4 : UInt8), { toBitVec := BitVec.ofNat (8 : Nat) (4 : Nat) }, (4 : UInt8), { toBitVec := BitVec.ofNat (8 : Nat) (4 : Nat) }, (4 : UInt8), { toBitVec := BitVec.ofNat (8 : Nat) (4 : Nat) }, (4 : UInt8), { toBitVec := BitVec.ofNat (8 : Nat) (4 : Nat) }, (5 : UInt8), { toBitVec := BitVec.ofNat (8 : Nat) (5 : Nat) }, (5 : UInt8), { toBitVec := BitVec.ofNat (8 : Nat) (5 : Nat) }, (5 : UInt8), { toBitVec := BitVec.ofNat (8 : Nat) (5 : Nat) }, (5 : UInt8), { toBitVec := BitVec.ofNat (8 : Nat) (5 : Nat) }, (5 : UInt8), { toBitVec := BitVec.ofNat (8 : Nat) (5 : Nat) }, (5 : UInt8), { toBitVec := BitVec.ofNat (8 : Nat) (5 : Nat) }, (5 : UInt8), { toBitVec := BitVec.ofNat (8 : Nat) (5 : Nat) }, (5 : UInt8), { toBitVec := BitVec.ofNat (8 : Nat) (5 : Nat) }, (6 : UInt8), { toBitVec := BitVec.ofNat (8 : Nat) (6 : Nat) }, (6 : UInt8), { toBitVec := BitVec.ofNat (8 : Nat) (6 : Nat) }, (6 : UInt8), { toBitVec := BitVec.ofNat (8 : Nat) (6 : Nat) }, (6 : UInt8), { toBitVec := BitVec.ofNat (8 : Nat) (6 : Nat) }, (6 : UInt8), { toBitVec := BitVec.ofNat (8 : Nat) (6 : Nat) }, (6 : UInt8), { toBitVec := BitVec.ofNat (8 : Nat) (6 : Nat) }, (6 : UInt8), { toBitVec := BitVec.ofNat (8 : Nat) (6 : Nat) }, (6 : UInt8), { toBitVec := BitVec.ofNat (8 : Nat) (6 : Nat) }, (6 : UInt8), { toBitVec := BitVec.ofNat (8 : Nat) (6 : Nat) }, (6 : UInt8), { toBitVec := BitVec.ofNat (8 : Nat) (6 : Nat) }, (6 : UInt8), { toBitVec := BitVec.ofNat (8 : Nat) (6 : Nat) }, (6 : UInt8), { toBitVec := BitVec.ofNat (8 : Nat) (6 : Nat) }, (6 : UInt8), { toBitVec := BitVec.ofNat (8 : Nat) (6 : Nat) }, (6 : UInt8), { toBitVec := BitVec.ofNat (8 : Nat) (6 : Nat) }, (6 : UInt8), { toBitVec := BitVec.ofNat (8 : Nat) (6 : Nat) }, (6 : UInt8), { toBitVec := BitVec.ofNat (8 : Nat) (6 : Nat) }].append
                                      [(7 : UInt8), { toBitVec := BitVec.ofNat (8 : Nat) (7 : Nat) }, (7 : UInt8), { toBitVec := BitVec.ofNat (8 : Nat) (7 : Nat) }, (7 : UInt8), { toBitVec := BitVec.ofNat (8 : Nat) (7 : Nat) }, (7 : UInt8), { toBitVec := BitVec.ofNat (8 : Nat) (7 : Nat) }, (7 : UInt8), { toBitVec := BitVec.ofNat (8 : Nat) (7 : Nat) }, (7 : UInt8), { toBitVec := BitVec.ofNat (8 : Nat) (7 : Nat) }, (7 : UInt8), { toBitVec := BitVec.ofNat (8 : Nat) (7 : Nat) }, (7 : UInt8), { toBitVec := BitVec.ofNat (8 : Nat) (7 : Nat) }, (7 : UInt8), { toBitVec := BitVec.ofNat (8 : Nat) (7 : Nat) }, (7 : UInt8), { toBitVec := BitVec.ofNat (8 : Nat) (7 : Nat) }, (7 : UInt8), { toBitVec := BitVec.ofNat (8 : Nat) (7 : Nat) }, (7 : UInt8), { toBitVec := BitVec.ofNat (8 : Nat) (7 : Nat) }, (7 : UInt8), { toBitVec := BitVec.ofNat (8 : Nat) (7 : Nat) }, (7 : UInt8), { toBitVec := BitVec.ofNat (8 : Nat) (7 : Nat) }, (7 : UInt8), { toBitVec := BitVec.ofNat (8 : Nat) (7 : Nat) }, (7 : UInt8), { toBitVec := BitVec.ofNat (8 : Nat) (7 : Nat) }, (7 : UInt8), { toBitVec := BitVec.ofNat (8 : Nat) (7 : Nat) }, (7 : UInt8), { toBitVec := BitVec.ofNat (8 : Nat) (7 : Nat) }, (7 : UInt8), { toBitVec := BitVec.ofNat (8 : Nat) (7 : Nat) }, (7 : UInt8), { toBitVec := BitVec.ofNat (8 : Nat) (7 : Nat) }, (7 : UInt8), { toBitVec := BitVec.ofNat (8 : Nat) (7 : Nat) }, (7 : UInt8), { toBitVec := BitVec.ofNat (8 : Nat) (7 : Nat) }, (7 : UInt8), { toBitVec := BitVec.ofNat (8 : Nat) (7 : Nat) }, (7 : UInt8), { toBitVec := BitVec.ofNat (8 : Nat) (7 : Nat) }, (7 : UInt8), { toBitVec := BitVec.ofNat (8 : Nat) (7 : Nat) }, (7 : UInt8), { toBitVec := BitVec.ofNat (8 : Nat) (7 : Nat) }, (7 : UInt8), { toBitVec := BitVec.ofNat (8 : Nat) (7 : Nat) }, (7 : UInt8), { toBitVec := BitVec.ofNat (8 : Nat) (7 : Nat) }, (7 : UInt8), { toBitVec := BitVec.ofNat (8 : Nat) (7 : Nat) }, (7 : UInt8), { toBitVec := BitVec.ofNat (8 : Nat) (7 : Nat) }, (7 : UInt8), { toBitVec := BitVec.ofNat (8 : Nat) (7 : Nat) }, (7 : UInt8), { toBitVec := BitVec.ofNat (8 : Nat) (7 : Nat) }]).append
                                ((8 : UInt8) ::
                                  [(8 : UInt8), { toBitVec := BitVec.ofNat (8 : Nat) (8 : Nat) }, (8 : UInt8), { toBitVec := BitVec.ofNat (8 : Nat) (8 : Nat) }, (8 : UInt8), { toBitVec := BitVec.ofNat (8 : Nat) (8 : Nat) }, (8 : UInt8), { toBitVec := BitVec.ofNat (8 : Nat) (8 : Nat) }, (8 : UInt8), { toBitVec := BitVec.ofNat (8 : Nat) (8 : Nat) }, (8 : UInt8), { toBitVec := BitVec.ofNat (8 : Nat) (8 : Nat) }, (8 : UInt8), { toBitVec := BitVec.ofNat (8 : Nat) (8 : Nat) }, (8 : UInt8), { toBitVec := BitVec.ofNat (8 : Nat) (8 : Nat) }, (8 : UInt8), { toBitVec := BitVec.ofNat (8 : Nat) (8 : Nat) }, (8 : UInt8), { toBitVec := BitVec.ofNat (8 : Nat) (8 : Nat) }, (8 : UInt8), { toBitVec := BitVec.ofNat (8 : Nat) (8 : Nat) }, (8 : UInt8), { toBitVec := BitVec.ofNat (8 : Nat) (8 : Nat) }, (8 : UInt8), { toBitVec := BitVec.ofNat (8 : Nat) (8 : Nat) }, (8 : UInt8), { toBitVec := BitVec.ofNat (8 : Nat) (8 : Nat) }, (8 : UInt8), { toBitVec := BitVec.ofNat (8 : Nat) (8 : Nat) }, (8 : UInt8), { toBitVec := BitVec.ofNat (8 : Nat) (8 : Nat) }, (8 : UInt8), { toBitVec := BitVec.ofNat (8 : Nat) (8 : Nat) }, (8 : UInt8), { toBitVec := BitVec.ofNat (8 : Nat) (8 : Nat) }, (8 : UInt8), { toBitVec := BitVec.ofNat (8 : Nat) (8 : Nat) }, (8 : UInt8), { toBitVec := BitVec.ofNat (8 : Nat) (8 : Nat) }, (8 : UInt8), { toBitVec := BitVec.ofNat (8 : Nat) (8 : Nat) }, (8 : UInt8), { toBitVec := BitVec.ofNat (8 : Nat) (8 : Nat) }, (8 : UInt8), { toBitVec := BitVec.ofNat (8 : Nat) (8 : Nat) }, (8 : UInt8), { toBitVec := BitVec.ofNat (8 : Nat) (8 : Nat) }, (8 : UInt8), { toBitVec := BitVec.ofNat (8 : Nat) (8 : Nat) }, (8 : UInt8), { toBitVec := BitVec.ofNat (8 : Nat) (8 : Nat) }, (8 : UInt8), { toBitVec := BitVec.ofNat (8 : Nat) (8 : Nat) }, (8 : UInt8), { toBitVec := BitVec.ofNat (8 : Nat) (8 : Nat) }, (8 : UInt8), { toBitVec := BitVec.ofNat (8 : Nat) (8 : Nat) }, (8 : UInt8), { toBitVec := BitVec.ofNat (8 : Nat) (8 : Nat) }, (8 : UInt8), { toBitVec := BitVec.ofNat (8 : Nat) (8 : Nat) }, (8 : UInt8)].append
                                    [(8 : UInt8), { toBitVec := BitVec.ofNat (8 : Nat) (8 : Nat) }, (8 : UInt8), { toBitVec := BitVec.ofNat (8 : Nat) (8 : Nat) }, (8 : UInt8), { toBitVec := BitVec.ofNat (8 : Nat) (8 : Nat) }, (8 : UInt8), { toBitVec := BitVec.ofNat (8 : Nat) (8 : Nat) }, (8 : UInt8), { toBitVec := BitVec.ofNat (8 : Nat) (8 : Nat) }, (8 : UInt8), { toBitVec := BitVec.ofNat (8 : Nat) (8 : Nat) }, (8 : UInt8), { toBitVec := BitVec.ofNat (8 : Nat) (8 : Nat) }, (8 : UInt8), { toBitVec := BitVec.ofNat (8 : Nat) (8 : Nat) }, (8 : UInt8), { toBitVec := BitVec.ofNat (8 : Nat) (8 : Nat) }, (8 : UInt8), { toBitVec := BitVec.ofNat (8 : Nat) (8 : Nat) }, (8 : UInt8), { toBitVec := BitVec.ofNat (8 : Nat) (8 : Nat) }, (8 : UInt8), { toBitVec := BitVec.ofNat (8 : Nat) (8 : Nat) }, (8 : UInt8), { toBitVec := BitVec.ofNat (8 : Nat) (8 : Nat) }, (8 : UInt8), { toBitVec := BitVec.ofNat (8 : Nat) (8 : Nat) }, (8 : UInt8), { toBitVec := BitVec.ofNat (8 : Nat) (8 : Nat) }, (8 : UInt8), { toBitVec := BitVec.ofNat (8 : Nat) (8 : Nat) }, (8 : UInt8), { toBitVec := BitVec.ofNat (8 : Nat) (8 : Nat) }, (8 : UInt8), { toBitVec := BitVec.ofNat (8 : Nat) (8 : Nat) }, (8 : UInt8), { toBitVec := BitVec.ofNat (8 : Nat) (8 : Nat) }, (8 : UInt8), { toBitVec := BitVec.ofNat (8 : Nat) (8 : Nat) }, (8 : UInt8), { toBitVec := BitVec.ofNat (8 : Nat) (8 : Nat) }, (8 : UInt8), { toBitVec := BitVec.ofNat (8 : Nat) (8 : Nat) }, (8 : UInt8), { toBitVec := BitVec.ofNat (8 : Nat) (8 : Nat) }, (8 : UInt8), { toBitVec := BitVec.ofNat (8 : Nat) (8 : Nat) }, (8 : UInt8), { toBitVec := BitVec.ofNat (8 : Nat) (8 : Nat) }, (8 : UInt8), { toBitVec := BitVec.ofNat (8 : Nat) (8 : Nat) }, (8 : UInt8), { toBitVec := BitVec.ofNat (8 : Nat) (8 : Nat) }, (8 : UInt8), { toBitVec := BitVec.ofNat (8 : Nat) (8 : Nat) }, (8 : UInt8), { toBitVec := BitVec.ofNat (8 : Nat) (8 : Nat) }, (8 : UInt8), { toBitVec := BitVec.ofNat (8 : Nat) (8 : Nat) }, (8 : UInt8), { toBitVec := BitVec.ofNat (8 : Nat) (8 : Nat) }, (8 : UInt8), { toBitVec := BitVec.ofNat (8 : Nat) (8 : Nat) }])).toArray }
                      (IntKind.u8.wrap x0))))))]
  else none) := (cutAt_J rfl nok 7 _).trans (by kernel_rfl)
-- stuck: 0
end Len64
namespace Len64
def tab : ByteArray := ⟨((List.range 256).map fun n => UInt8.ofNat (bl n)).toArray⟩
theorem J7t (x n : Int) : J7 x n = bcase (decide (256 ≤ x))
  (if 0 ≤ IntKind.u8.wrap (x / 256) ∧ IntKind.u8.wrap (x / 256) < 256 then some [D.s (.sc (.int .i64 (IntKind.i64.wrap (IntKind.i64.wrap (n + 8) + IntKind.i64.wrap (strAt tab (IntKind.u8.wrap (x / 256)))))))] else none)
  (if 0 ≤ IntKind.u8.wrap x ∧ IntKind.u8.wrap x < 256 then some [D.s (.sc (.int .i64 (IntKind.i64.wrap (n + IntKind.i64.wrap (strAt tab (IntKind.u8.wrap x))))))] else none) := (J7_eq x n).trans (by kernel_rfl)
theorem tab_all : (List.range 256).all (fun n => strAt tab (n : Nat) == (bl n : Nat)) = true := by kernel_rfl
theorem tab_at {x : Int} (h : 0 ≤ x) (h' : x < 256) : strAt tab x = (bl x.toNat : Nat) := by
  have := List.all_eq_true.1 tab_all x.toNat (List.mem_range.2 (by omega))
  rw [show ((x.toNat : Nat) : Int) = x from by omega] at this
  exact eq_of_beq this
theorem wrap_u8 {x : Int} (h : 0 ≤ x) (h' : x < 256) : IntKind.u8.wrap x = x := by
  show (if (false && decide (x % 256 ≥ 128)) = true then x % 256 - 256 else x % 256) = x
  rw [Int.emod_eq_of_lt h h']; simp
theorem bl_shift {x : Int} {k : Nat} (h : (2 : Int) ^ k ≤ x) : bl x.toNat = k + bl (x / 2 ^ k).toNat := by
  have hp : (0 : Int) < 2 ^ k := Int.pow_pos (by omega)
  have hpn : ((2 ^ k : Nat) : Int) = 2 ^ k := by rw [Int.natCast_pow]; rfl
  obtain ⟨n, rfl⟩ := Int.eq_ofNat_of_zero_le (show 0 ≤ x by omega)
  rw [← hpn] at h ⊢
  rw [← Int.natCast_ediv, Int.toNat_natCast, Int.toNat_natCast]
  have h1 := Nat.div_add_mod n (2 ^ k)
  have h2 := Nat.mod_lt n (Nat.pow_pos (n := k) (show 0 < 2 by omega))
  have h3 : n / 2 ^ k ≠ 0 := by
    intro h0
    have := (Nat.div_eq_zero_iff_lt (Nat.pow_pos (n := k) (show 0 < 2 by omega))).1 h0
    omega
  have := bl_add h2 h3
  rw [show n % 2 ^ k + 2 ^ k * (n / 2 ^ k) = n from by omega] at this
  exact this
theorem J7v {x n : Int} (h : 0 ≤ x) (h' : x < 65536) (hn : 0 ≤ n) (hn' : n ≤ 1000) : J7 x n = some [D.s (.sc (.int .i64 (n + (bl x.toNat : Nat))))] := by
  rw [J7t]
  by_cases hc : 256 ≤ x
  · have hb : bl (x / 256).toNat ≤ 8 := bl_le.2 (by omega)
    have hs := bl_shift (x := x) (k := 8) (by omega)
    rw [show ((2 : Int) ^ 8) = 256 from rfl] at hs
    rw [bD_pos hc, wrap_u8 (by omega) (by omega), if_pos ⟨by omega, by omega⟩, tab_at (by omega) (by omega), wrap_i64 (n := n + 8) (by omega) (by omega), wrap_i64 (n := ((bl (x / 256).toNat : Nat) : Int)) (by omega) (by omega), wrap_i64 (by omega) (by omega), hs]
    congr 5
    omega
  · have hb : bl x.toNat ≤ 8 := bl_le.2 (by omega)
    rw [bD_neg hc, wrap_u8 (by omega) (by omega), if_pos ⟨by omega, by omega⟩, tab_at (by omega) (by omega), wrap_i64 (n := ((bl x.toNat : Nat) : Int)) (by omega) (by omega), wrap_i64 (by omega) (by omega)]
theorem J4v {x n : Int} (h : 0 ≤ x) (h' : x < 4294967296) (hn : 0 ≤ n) (hn' : n ≤ 500) : J4 x n = some [D.s (.sc (.int .i64 (n + (bl x.toNat : Nat))))] := by
  rw [J4_eq]
  by_cases hc : 65536 ≤ x
  · have hs := bl_shift (x := x) (k := 16) (by omega)
    rw [show ((2 : Int) ^ 16) = 65536 from rfl] at hs
    rw [bD_pos hc, wrap_i64 (n := n + 16) (by omega) (by omega), J7v (by omega) (by omega) (by omega) (by omega), hs]
    congr 5
    omega
  · rw [bD_neg hc, J7v (by omega) (by omega) (by omega) (by omega)]
noncomputable def sp (a : Int) : Prop × List D := (0 ≤ a ∧ a < 18446744073709551616, [.s (.sc (.int .i64 (bl a.toNat : Nat)))])
theorem spec (a : Int) (h : (sp a).1) : evalFn E Tryz.f209 cod [(pN .u64).put a] = some (sp a).2 := by
  obtain ⟨h1, h2⟩ := h
  refine (start a).trans ?_
  show _ = some [D.s (.sc (.int .i64 (bl a.toNat : Nat)))]
  by_cases hc : 4294967296 ≤ a
  · have hs := bl_shift (x := a) (k := 32) (by omega)
    rw [show ((2 : Int) ^ 32) = 4294967296 from rfl] at hs
    rw [bD_pos hc, J4v (by omega) (by omega) (by omega) (by omega), hs]
    congr 5
  · rw [bD_neg hc, J4v (by omega) (by omega) (by omega) (by omega)]
    congr 5
    omega

noncomputable def orc : Orc := orc1 (pN .u64) sp
theorem fnok : FnOk Tryz.prog E 209 Tryz.f209 cod := fnOk ty_ok mixed (callsOk_of _ rfl orcs_nil (ext_ok)) Tryz.func209 rfl rfl rfl
theorem ok : OrcOk Tryz.prog base.glob 209 orc := fnok.ok1 rfl spec
end Len64
end Go.Proofs.YtknafopmgaolmaaGreatDoor.W

/- gnomon/nat.Bits -/
namespace Go.Proofs.YtknafopmgaolmaaGreatDoor.W
open Go Go.Proofs.YtknafopmgaolmaaGreatDoor.AI Go.Proofs.YtknafopmgaolmaaGreatDoor.M
namespace NBits
noncomputable def E : Env := { ({ base with C := callsOf [(207, NTrim.orc), (209, Len64.orc)] }) with nt := 21, own := [], keep := fun k => (tlook [] k).getD [], cut := tlook [] }
noncomputable def cod : Code := (Go.Proofs.Tryz.f164.body).getD .skip
theorem nok : namesOk E cod = true := by kernel_rfl
theorem start (a : List Int) : evalFn E Go.Proofs.Tryz.f164 cod [D.s (S.ints IntKind.u64 a)] = gif (M6.Dig a ∧ a.length ≤ (1099511627776 : Nat)) (bcase ((↑(M6.dg (M6.val a)).length : Int) == (0 : Int)) (some [D.s (S.sc (Value.int IntKind.i64 (0 : Int)))]) (if (0 : Int) ≤ IntKind.i64.wrap ((↑(M6.dg (M6.val a)).length : Int) - (1 : Int)) ∧ IntKind.i64.wrap ((↑(M6.dg (M6.val a)).length : Int) - (1 : Int)) < (↑(M6.dg (M6.val a)).length : Int) then gif ((0 : Int) ≤ (M6.dg (M6.val a)).getD (IntKind.i64.wrap ((↑(M6.dg (M6.val a)).length : Int) - (1 : Int))).toNat (0 : Int) ∧ (M6.dg (M6.val a)).getD (IntKind.i64.wrap ((↑(M6.dg (M6.val a)).length : Int) - (1 : Int))).toNat (0 : Int) < (18446744073709551616 : Int)) (some [D.s (S.sc (Value.int IntKind.i64 (IntKind.i64.wrap (IntKind.i64.wrap ((64 : Int) * IntKind.i64.wrap ((↑(M6.dg (M6.val a)).length : Int) - (1 : Int))) + (↑(bl ((M6.dg (M6.val a)).getD (IntKind.i64.wrap ((↑(M6.dg (M6.val a)).length : Int) - (1 : Int))).toNat (0 : Int)).toNat) : Int)))))]) else none)) := (evalFn_J rfl nok _).trans (by kernel_rfl)
-- stuck: 0
end NBits
namespace NBits
noncomputable def sp (a : List Int) : Prop × List D := (M6.Dig a ∧ a.length ≤ 1099511627776, [.s (.sc (.int .i64 (bl (M6.val a) : Nat)))])
theorem pow64 (k : Nat) : 18446744073709551616 ^ k = 2 ^ (64 * k) := by rw [Nat.pow_mul]
theorem spec (a : List Int) (h : (sp a).1) : evalFn E Tryz.f164 cod [(pI .u64).put a] = some (sp a).2 := by
  refine (start a).trans ((gP h).trans ?_)
  show _ = some [D.s (.sc (.int .i64 (bl (M6.val a) : Nat)))]
  have hl := M6.len_val h.1
  have h2 := h.2
  have hn := M6.nrm_dg (M6.val a)
  have hv := M6.val_dg (M6.val a)
  generalize M6.dg (M6.val a) = d at *
  rw [← hv]
  by_cases hz : d.length = 0
  · rw [bE_pos (by omega), (M6.len_zero hn).1 hz]
    rfl
  · have hd := hn.dig.get (d.length - 1)
    have hv := M6.val_take_one (a := d) (d.length - 1)
    rw [show d.length - 1 + 1 = d.length from by omega, M6.val_take_ge (Nat.le_refl _)] at hv
    have ht : d.getD (d.length - 1) 0 ≠ 0 := by
      have := M6.getLast_take (a := d) (n := d.length - 1) (by omega)
      rw [show d.length - 1 + 1 = d.length from by omega, List.take_length] at this
      exact hn.top this
    have hb : bl (d.getD (d.length - 1) 0).toNat ≤ 64 := bl_le.2 (by omega)
    have e : ((d.length : Int) - 1).toNat = d.length - 1 := by omega
    rw [bE_neg (by omega), wrap_i64 (n := (d.length : Int) - 1) (by omega) (by omega), if_pos (by omega), e, gP hd, wrap_i64 (n := 64 * ((d.length : Int) - 1)) (by omega) (by omega), wrap_i64 (by omega) (by omega),
      hv, pow64, bl_add (by rw [← pow64]; exact M6.val_take_lt hn.dig _) (by omega)]
    congr 5
    omega

noncomputable def orc : Orc := orc1 (pI .u64) sp
theorem fnok : FnOk Tryz.prog E 164 Tryz.f164 cod := fnOk ty_ok mixed (callsOk_of _ rfl (orcs_cons NTrim.ok (orcs_cons Len64.ok orcs_nil)) (ext_ok)) Tryz.func164 rfl rfl rfl
theorem ok : OrcOk Tryz.prog base.glob 164 orc := fnok.ok1 rfl spec
end NBits
end Go.Proofs.YtknafopmgaolmaaGreatDoor.W

/- gnomon/nat.Shl -/
namespace Go.Proofs.YtknafopmgaolmaaGreatDoor.W
open Go Go.Proofs.YtknafopmgaolmaaGreatDoor.AI Go.Proofs.YtknafopmgaolmaaGreatDoor.M
namespace NShl
noncomputable def E : Env := { ({ base with C := callsOf [(202, NForm.orc), (204, NTold.orc), (164, NBits.orc)] }) with nt := 71, own := [68], keep := fun k => (tlook [(12, [0, 6, 7, 8, 34, 35])] k).getD [], cut := tlook [] }
noncomputable def cod : Code := (Go.Proofs.Tryz.f159.body).getD .skip
theorem nok : namesOk E cod = true := by kernel_rfl
noncomputable def L12 (xs0 : List Int) (x1 : Int) (x2 : Int) (m3 : Nat) (xs4 : List Int) (x5 : Int) (x6 : Int) : Option (List D) := lpO E Go.Proofs.Tryz.f159 cod 12 [(A.v (V.one (L.s (S.ints IntKind.u64 xs0))), none), (A.v (V.one (L.s (S.sc (Value.int IntKind.i64 x1)))), none), (A.v (V.one (L.s (S.sc (Value.int IntKind.i64 x2)))), none), (A.v (V.one (L.buf (3 : Nat) m3)), some { e := (23 : Nat), cont := Cont.ints IntKind.u64 xs4 }), (A.v (V.one (L.s (S.sc (Value.int IntKind.i64 x5)))), none), (A.v (V.one (L.s (S.sc (Value.int IntKind.i64 x6)))), none)]
theorem start (a : List Int) (b : Int) : evalFn E Go.Proofs.Tryz.f159 cod [D.s (S.ints IntKind.u64 a), D.s (S.sc (Value.int IntKind.i64 b))] = bcase (decide (b < (0 : Int))) (some [D.s (S.sc (Value.slice none (0 : Nat) (0 : Nat))), D.s (S.sc (Value.int IntKind.i64 (1 : Int)))]) (gif (a.length ≤ (1099511627776 : Nat)) (bcase (!NForm.formB a) (some [D.s (S.sc (Value.slice none (0 : Nat) (0 : Nat))), D.s (S.sc (Value.int IntKind.i64 (2 : Int)))]) (bcase ((↑a.length : Int) == (0 : Int)) (some [D.s (S.sc (Value.slice none (0 : Nat) (0 : Nat))), D.s (S.sc (Value.int IntKind.i64 (0 : Int)))]) (gif (M6.Dig a ∧ a.length ≤ (1099511627776 : Nat)) (bcase (decide (IntKind.i64.wrap ((524288 : Int) - (↑(bl (M6.val a)) : Int)) < b)) (some [D.s (S.sc (Value.slice none (0 : Nat) (0 : Nat))), D.s (S.sc (Value.int IntKind.i64 (5 : Int)))]) (if (0 : Int) ≤ IntKind.i64.wrap (IntKind.i64.wrap (IntKind.i64.wrap (b.tdiv (64 : Int)) + (↑a.length : Int)) + (1 : Int)) ∧ IntKind.i64.wrap (IntKind.i64.wrap (IntKind.i64.wrap (b.tdiv (64 : Int)) + (↑a.length : Int)) + (1 : Int)) ≤ IntKind.i64.wrap (IntKind.i64.wrap (IntKind.i64.wrap (b.tdiv (64 : Int)) + (↑a.length : Int)) + (1 : Int)) ∧ IntKind.i64.wrap (IntKind.i64.wrap (IntKind.i64.wrap (b.tdiv (64 : Int)) + (↑a.length : Int)) + (1 : Int)) ≤ (8796093022208 : Int) then NShl.L12 a (IntKind.i64.wrap (b.tdiv (64 : Int))) (b.tmod (64 : Int)) (IntKind.i64.wrap (IntKind.i64.wrap (IntKind.i64.wrap (b.tdiv (64 : Int)) + (↑a.length : Int)) + (1 : Int))).toNat (List.replicate (IntKind.i64.wrap (IntKind.i64.wrap (IntKind.i64.wrap (b.tdiv (64 : Int)) + (↑a.length : Int)) + (1 : Int))).toNat (0 : Int)) (↑a.length : Int) (0 : Int) else none)))))) := (evalFn_J rfl nok _).trans (by kernel_rfl)
theorem L12_eq (xs0 : List Int) (x1 : Int) (x2 : Int) (m3 : Nat) (xs4 : List Int) (x5 : Int) (x6 : Int) : L12 xs0 x1 x2 m3 xs4 x5 x6 = bcase (decide (x6 < x5)) (if (0 : Int) ≤ IntKind.i64.wrap (x1 + x6) ∧ IntKind.i64.wrap (x1 + x6) < (↑m3 : Int) then if (0 : Int) ≤ x6 ∧ x6 < (↑xs0.length : Int) then if x2 < (0 : Int) then none else if (0 : Int) ≤ IntKind.i64.wrap (x1 + x6) ∧ IntKind.i64.wrap (x1 + x6) < (↑m3 : Int) then if (0 : Int) ≤ x6 ∧ x6 < (↑xs0.length : Int) then if IntKind.i64.wrap ((63 : Int) - x2) < (0 : Int) then none else if (0 : Int) ≤ IntKind.i64.wrap (IntKind.i64.wrap (x1 + x6) + (1 : Int)) ∧ IntKind.i64.wrap (IntKind.i64.wrap (x1 + x6) + (1 : Int)) < (↑m3 : Int) then NShl.L12 xs0 x1 x2 m3 ((xs4.set (IntKind.i64.wrap (x1 + x6)).toNat (bitsI BinOp.or IntKind.u64 (xs4.getD (IntKind.i64.wrap (x1 + x6)).toNat (0 : Int)) (IntKind.u64.wrap (xs0.getD x6.toNat (0 : Int) * (↑((2 : Nat) ^ min x2.toNat (64 : Nat)) : Int))))).set (IntKind.i64.wrap (IntKind.i64.wrap (x1 + x6) + (1 : Int))).toNat (xs0.getD x6.toNat (0 : Int) / (2 : Int) / (↑((2 : Nat) ^ min (IntKind.i64.wrap ((63 : Int) - x2)).toNat (64 : Nat)) : Int))) x5 (IntKind.i64.wrap (x6 + (1 : Int))) else none else none else none else none else none) (gif (M6.Dig xs4 ∧ xs4.length ≤ (1099511627776 : Nat)) (some [D.s (S.ints IntKind.u64 (bif NTold.okN (M6.val xs4) then M6.dg (M6.val xs4) else [])), D.s (S.sc (Value.int IntKind.i64 (bif NTold.okN (M6.val xs4) then (0 : Int) else (5 : Int))))])) := (loopAt_J rfl nok 12 _).trans (by kernel_rfl)
-- stuck: 0
end NShl
namespace NShl
theorem step {a P : List Int} {c : Int} {q k i r : Nat} (ha : M6.Dig a) (hP : P.length = q + i) (hi : i < a.length) (hl : a.length ≤ 8192) (hq : q ≤ 8192) (hk : k < 64) (h0 : 0 ≤ c) (h1 : c < ((2 ^ k : Nat) : Int)) (hr : i + (r + 1) = a.length) :
    L12 a q k (q + a.length + 1) (P ++ c :: List.replicate (r + 1) 0) a.length i =
      L12 a q k (q + a.length + 1) ((P ++ [c + (((a.getD i 0).toNat * 2 ^ k % 18446744073709551616 : Nat) : Int)]) ++ (((a.getD i 0).toNat / 2 ^ (64 - k) : Nat) : Int) :: List.replicate r 0) a.length ((i + 1 : Nat) : Int) := by
  have g := ha.get i
  have w1 : IntKind.i64.wrap ((q : Int) + i) = ((q + i : Nat) : Int) := by rw [wrap_i64 (by omega) (by omega)]; omega
  have w2 : IntKind.i64.wrap (((q + i : Nat) : Int) + 1) = ((q + i + 1 : Nat) : Int) := by rw [wrap_i64 (by omega) (by omega)]; omega
  have w3 : IntKind.i64.wrap (63 - (k : Int)) = ((63 - k : Nat) : Int) := by rw [wrap_i64 (by omega) (by omega)]; omega
  have m1 : min k 64 = k := by omega
  have m2 : min (63 - k) 64 = 63 - k := by omega
  have hpk : 2 ^ k < 2 ^ 64 := Nat.pow_lt_pow_right (by omega) hk
  obtain ⟨x, hx⟩ := Int.eq_ofNat_of_zero_le g.1
  rw [L12_eq, bD_pos (by omega), w1, if_pos ⟨by omega, by omega⟩, if_pos ⟨by omega, by omega⟩, if_neg (by omega), if_pos ⟨by omega, by omega⟩, if_pos ⟨by omega, by omega⟩, w3, if_neg (by omega), w2, if_pos ⟨by omega, by omega⟩,
    Int.toNat_natCast, Int.toNat_natCast, Int.toNat_natCast, Int.toNat_natCast, Int.toNat_natCast, m1, m2, getD_fill hP, set_at hP, wrap_i64 (n := (i : Int) + 1) (by omega) (by omega), hx, Int.toNat_natCast]
  have hlo : IntKind.u64.wrap ((x : Int) * ((2 ^ k : Nat) : Int)) = ((x * 2 ^ k % 18446744073709551616 : Nat) : Int) := by
    rw [wrap_u64_eq, ← Int.natCast_mul, Int.natCast_emod]; rfl
  have hlt : x * 2 ^ k % 18446744073709551616 < 18446744073709551616 := Nat.mod_lt _ (by omega)
  have hor : bitsI .or .u64 c ((x * 2 ^ k % 18446744073709551616 : Nat) : Int) = c + ((x * 2 ^ k % 18446744073709551616 : Nat) : Int) := by
    rw [or64 h0 (by generalize 2 ^ k = p at *; omega) (by omega) (by omega), Int.toNat_natCast, shl_low x k hk, or_low (by omega)]
    omega
  have hhi : (x : Int) / 2 / ((2 ^ (63 - k) : Nat) : Int) = ((x / 2 ^ (64 - k) : Nat) : Int) := by
    have e : 2 ^ (64 - k) = 2 * 2 ^ (63 - k) := by rw [show 64 - k = (63 - k) + 1 from by omega, Nat.pow_succ, Nat.mul_comm]
    rw [e, ← Nat.div_div_eq_div_mul, Int.natCast_ediv, Int.natCast_ediv]
    rfl
  rw [hlo, hor, hhi]
  have hs := set_at (pre := P ++ [c + ((x * 2 ^ k % 18446744073709551616 : Nat) : Int)]) (i := q + i + 1) (by simp [hP]) 0 ((x / 2 ^ (64 - k) : Nat) : Int) (List.replicate r 0)
  rw [List.append_assoc, List.singleton_append, ← List.replicate_succ] at hs
  rw [hs]
  rfl

theorem L {a : List Int} {q k : Nat} (ha : M6.Nrm a) (hl : a.length ≤ 8192) (hq : q ≤ 8192) (hk : k < 64) (hok : NTold.okN (M6.val a * 2 ^ k * 18446744073709551616 ^ q) = true) : ∀ (r i : Nat) (P : List Int) (c : Int), i + r = a.length → P.length = q + i → M6.Dig P → 0 ≤ c → c < ((2 ^ k : Nat) : Int) →
    M6.val P + 18446744073709551616 ^ (q + i) * c.toNat = 18446744073709551616 ^ q * (M6.val (a.take i) * 2 ^ k) →
    L12 a q k (q + a.length + 1) (P ++ c :: List.replicate r 0) a.length i = some [D.s (.ints .u64 (M6.dg (M6.val a * 2 ^ k * 18446744073709551616 ^ q))), D.s (.sc (.int .i64 0))] := by
  intro r
  have hpk : 2 ^ k < 2 ^ 64 := Nat.pow_lt_pow_right (by omega) hk
  induction r with
  | zero =>
    intro i P c hi hP hd h0 h1 hv
    have hv2 : M6.val (P ++ c :: List.replicate 0 0) = M6.val a * 2 ^ k * 18446744073709551616 ^ q := by
      rw [List.replicate_zero, M6.val_push, hP, hv, M6.val_take_ge (by omega), Nat.mul_comm]
    have hdd : M6.Dig (P ++ c :: List.replicate 0 0) := by
      rw [List.replicate_zero]
      exact M6.dig_push hd ⟨h0, by generalize 2 ^ k = p at *; omega⟩
    rw [L12_eq, bD_neg (by omega), gP ⟨hdd, by simp; omega⟩, hv2, hok]
    rfl
  | succ r ih =>
    intro i P c hi hP hd h0 h1 hv
    have g := ha.dig.get i
    rw [step ha.dig hP (by omega) hl hq hk h0 h1 (by omega)]
    have hlt : (a.getD i 0).toNat * 2 ^ k % 18446744073709551616 < 18446744073709551616 := Nat.mod_lt _ (by omega)
    have hlow := shl_low (a.getD i 0).toNat k hk
    have hsp := shl_parts (a.getD i 0).toNat k hk
    have hhi : (a.getD i 0).toNat / 2 ^ (64 - k) < 2 ^ k := by
      apply Nat.div_lt_of_lt_mul
      rw [← Nat.pow_add, show 64 - k + k = 64 from by omega]
      omega
    have hsum : c.toNat + (a.getD i 0).toNat * 2 ^ k % 18446744073709551616 < 18446744073709551616 := by
      rw [hlow]
      have hm : (a.getD i 0).toNat % 2 ^ (64 - k) < 2 ^ (64 - k) := Nat.mod_lt _ (Nat.pow_pos (by omega))
      have e : (18446744073709551616 : Nat) = 2 ^ k * 2 ^ (64 - k) := by rw [← Nat.pow_add, show k + (64 - k) = 64 from by omega]
      have h3 : 2 ^ k * ((a.getD i 0).toNat % 2 ^ (64 - k) + 1) ≤ 2 ^ k * 2 ^ (64 - k) := Nat.mul_le_mul_left _ hm
      rw [← e, Nat.mul_add] at h3
      omega
    refine ih (i + 1) _ _ (by omega) (by simp [hP]; omega) (M6.dig_push hd ⟨by omega, by omega⟩) (by omega) (by omega) ?_
    rw [M6.val_push, hP, M6.val_take_one, Int.toNat_natCast, show q + (i + 1) = (q + i) + 1 from by omega, Nat.pow_succ, Nat.mul_assoc]
    have e1 : (c + (((a.getD i 0).toNat * 2 ^ k % 18446744073709551616 : Nat) : Int)).toNat = c.toNat + (a.getD i 0).toNat * 2 ^ k % 18446744073709551616 := by omega
    rw [e1]
    have e2 : 18446744073709551616 ^ (q + i) * (c.toNat + (a.getD i 0).toNat * 2 ^ k % 18446744073709551616) + 18446744073709551616 ^ (q + i) * (18446744073709551616 * ((a.getD i 0).toNat / 2 ^ (64 - k))) = 18446744073709551616 ^ (q + i) * c.toNat + 18446744073709551616 ^ (q + i) * ((a.getD i 0).toNat * 2 ^ k) := by
      rw [← Nat.mul_add, ← Nat.mul_add]
      congr 1
      omega
    have e3 : 18446744073709551616 ^ q * ((M6.val (a.take i) + 18446744073709551616 ^ i * (a.getD i 0).toNat) * 2 ^ k) = 18446744073709551616 ^ q * (M6.val (a.take i) * 2 ^ k) + 18446744073709551616 ^ (q + i) * ((a.getD i 0).toNat * 2 ^ k) := by
      rw [Nat.add_mul, Nat.mul_add, Nat.pow_add, Nat.mul_assoc, Nat.mul_assoc]
    rw [e3]
    omega

/-- Does the shifted number fit? -/
def shlOk (n k : Nat) : Bool := decide (n = 0) || decide (bl n + k ≤ 524288)
noncomputable def sp (a : List Int) (n : Int) : Prop × List D := (M6.Nrm a ∧ a.length ≤ 8192 ∧ 0 ≤ n ∧ n < 4611686018427387904, [.s (.ints .u64 (bif shlOk (M6.val a) n.toNat then M6.dg (M6.val a * 2 ^ n.toNat) else [])), .s (.sc (.int .i64 (bif shlOk (M6.val a) n.toNat then 0 else 5)))])
theorem spec (a : List Int) (n : Int) (h : (sp a n).1) : ∃ rs, evalFn E Tryz.f159 cod [(pI .u64).put a, (pN .i64).put n] = some rs ∧ RsLe rs (sp a n).2 := by
  obtain ⟨ha, hl, h0, h1⟩ := h
  have e := start a n
  have hb := bl6_len ha.dig hl
  rw [bD_neg (by omega), gP (by omega), NForm.form_of ha hl, Bool.not_true, bF] at e
  unfold sp shlOk
  simp only
  by_cases hz : a.length = 0
  · have hv := (M6.len_zero ha).1 hz
    rw [bE_pos (by omega)] at e
    rw [hv, Nat.zero_mul, M6.dg_zero, decide_eq_true rfl, Bool.true_or]
    exact ⟨_, e, .cons (RLe.nil _) (RsLe.refl _)⟩
  · have hv : M6.val a ≠ 0 := fun h => hz ((M6.len_zero ha).2 h)
    rw [bE_neg (by omega), gP ⟨ha.dig, by omega⟩, wrap_i64 (n := 524288 - (bl (M6.val a) : Int)) (by omega) (by omega)] at e
    rw [decide_eq_false hv, Bool.false_or]
    by_cases hc : bl (M6.val a) + n.toNat ≤ 524288
    · have hbp := bl_pos hv
      have eq : n / 64 = ((n.toNat / 64 : Nat) : Int) := by omega
      have ek : n % 64 = ((n.toNat % 64 : Nat) : Int) := by omega
      rw [bD_neg (by omega), tdiv64 h0, tmod64 h0, wrap_i64 (n := n / 64) (by omega) (by omega), wrap_i64 (n := n / 64 + a.length) (by omega) (by omega), wrap_i64 (by omega) (by omega), if_pos ⟨by omega, by omega, by omega⟩, eq, ek,
        show (((n.toNat / 64 : Nat) : Int) + (a.length : Int) + 1).toNat = n.toNat / 64 + a.length + 1 from by omega] at e
      have hval : M6.val a * 2 ^ n.toNat = M6.val a * 2 ^ (n.toNat % 64) * 18446744073709551616 ^ (n.toNat / 64) := by
        rw [pow_split6, Nat.mul_assoc, Nat.mul_comm (2 ^ (n.toNat % 64))]
      have hok : NTold.okN (M6.val a * 2 ^ (n.toNat % 64) * 18446744073709551616 ^ (n.toNat / 64)) = true := by
        rw [← hval]
        exact decide_eq_true (len6_bl (k := 8192) (by rw [Nat.mul_comm, bl_mul hv]; omega))
      have := L (q := n.toNat / 64) (k := n.toNat % 64) ha hl (by omega) (by omega) hok a.length 0 (List.replicate (n.toNat / 64) 0) 0 (by omega) (by simp) (M6.dig_replicate _) (by omega) (by have := Nat.pow_pos (n := n.toNat % 64) (show 0 < 2 by omega); omega) (by rw [M6.val_replicate]; simp [M6.val])
      rw [show (List.replicate (n.toNat / 64) (0 : Int) ++ 0 :: List.replicate a.length 0) = List.replicate (n.toNat / 64 + a.length + 1) 0 from by rw [← List.replicate_succ, List.replicate_append_replicate, Nat.add_assoc]] at this
      rw [decide_eq_true hc, hval]
      exact ⟨_, e.trans this, RsLe.refl _⟩
    · rw [bD_pos (by omega)] at e
      rw [decide_eq_false hc]
      exact ⟨_, e, .cons (RLe.nil _) (RsLe.refl _)⟩

noncomputable def orc : Orc := orc2 (pI .u64) (pN .i64) sp
theorem fnok : FnOk Tryz.prog E 159 Tryz.f159 cod := fnOk ty_ok mixed (callsOk_of _ rfl (orcs_cons NForm.ok (orcs_cons NTold.ok (orcs_cons NBits.ok orcs_nil))) (ext_ok)) Tryz.func159 rfl rfl rfl
theorem ok : OrcOk Tryz.prog base.glob 159 orc := fnok.wk2 rfl spec
end NShl
end Go.Proofs.YtknafopmgaolmaaGreatDoor.W

/- gnomon/num.whole -/
namespace Go.Proofs.YtknafopmgaolmaaGreatDoor.W
open Go Go.Proofs.YtknafopmgaolmaaGreatDoor.AI Go.Proofs.YtknafopmgaolmaaGreatDoor.M
namespace MWhole
noncomputable def E : Env := { (base) with nt := 13, own := [], keep := fun k => (tlook [] k).getD [], cut := tlook [] }
noncomputable def cod : Code := (Go.Proofs.Tryz.f153.body).getD .skip
theorem nok : namesOk E cod = true := by kernel_rfl
theorem start (a : Bool) (b : List Int) : evalFn E Go.Proofs.Tryz.f153 cod [D.s (S.sc (Value.bool a)), D.s (S.ints IntKind.u64 b)] = bcase a (some [D.agg [S.sc (Value.bool (decide ((0 : Int) < (↑b.length : Int)))), S.ints IntKind.u64 b]]) (some [D.agg [S.sc (Value.bool false), S.ints IntKind.u64 b]]) := (evalFn_J rfl nok _).trans (by kernel_rfl)
-- stuck: 0
end MWhole
namespace MWhole
noncomputable def sp (a : Bool) (b : List Int) : Prop × List D := (M6.Nrm b ∧ b.length ≤ 1099511627776, [wD (zs a (M6.val b))])
theorem spec (a : Bool) (b : List Int) (h : (sp a b).1) : evalFn E Tryz.f153 cod [pB.put a, (pI .u64).put b] = some (sp a b).2 := by
  obtain ⟨hb, hl⟩ := h
  refine (start a b).trans ?_
  show _ = some [wD (zs a (M6.val b))]
  rw [wD_zs, ← hb]
  cases a with
  | false => rfl
  | true =>
    rw [bT, Bool.true_and]
    have := M6.len_zero hb
    by_cases hz : b.length = 0
    · rw [decide_eq_false (show ¬ (0 < (b.length : Int)) by omega), decide_eq_false (show ¬ (M6.val b ≠ 0) from fun h => h (this.1 hz))]
    · rw [decide_eq_true (show (0 < (b.length : Int)) by omega), decide_eq_true (show (M6.val b ≠ 0) from fun h => hz (this.2 h))]

noncomputable def orc : Orc := orc2 pB (pI .u64) sp
theorem fnok : FnOk Tryz.prog E 153 Tryz.f153 cod := fnOk ty_ok mixed (callsOk_of _ rfl orcs_nil (ext_ok)) Tryz.func153 rfl rfl rfl
theorem ok : OrcOk Tryz.prog base.glob 153 orc := fnok.ok2 rfl spec
end MWhole
end Go.Proofs.YtknafopmgaolmaaGreatDoor.W

/- gnomon/num.told -/
namespace Go.Proofs.YtknafopmgaolmaaGreatDoor.W
open Go Go.Proofs.YtknafopmgaolmaaGreatDoor.AI Go.Proofs.YtknafopmgaolmaaGreatDoor.M
namespace MTold
noncomputable def E : Env := { ({ base with C := callsOf [(153, MWhole.orc)] }) with nt := 15, own := [], keep := fun k => (tlook [] k).getD [], cut := tlook [] }
noncomputable def cod : Code := (Go.Proofs.Tryz.f160.body).getD .skip
theorem nok : namesOk E cod = true := by kernel_rfl
theorem start (a : Bool) (b : List Int) (c : Int) : evalFn E Go.Proofs.Tryz.f160 cod [D.s (S.sc (Value.bool a)), D.s (S.ints IntKind.u64 b), D.s (S.sc (Value.int IntKind.i64 c))] = bcase (c != (0 : Int)) (some [D.agg [S.sc (Value.bool false), S.sc (Value.slice none (0 : Nat) (0 : Nat))], D.s (S.sc (Value.int IntKind.i64 c))]) (gif (M6.Nrm b ∧ b.length ≤ (1099511627776 : Nat)) (some [D.agg [S.sc (Value.bool (isNeg (zs a (M6.val b)))), S.ints IntKind.u64 (M6.dg (zs a (M6.val b)).natAbs)], D.s (S.sc (Value.int IntKind.i64 (0 : Int)))])) := (evalFn_J rfl nok _).trans (by kernel_rfl)
-- stuck: 0
end MTold
namespace MTold
noncomputable def sp (a : Bool) (b : List Int) (c : Int) : Prop × List D := (M6.Nrm b ∧ b.length ≤ 1099511627776, [wD (bif c == 0 then zs a (M6.val b) else 0), .s (.sc (.int .i64 c))])
theorem spec (a : Bool) (b : List Int) (c : Int) (h : (sp a b c).1) : ∃ rs, evalFn E Tryz.f160 cod [pB.put a, (pI .u64).put b, (pN .i64).put c] = some rs ∧ RsLe rs (sp a b c).2 := by
  have e := start a b c
  have hg : M6.Nrm b ∧ b.length ≤ 1099511627776 := h
  unfold sp
  simp only
  by_cases hc : c = 0
  · subst hc
    rw [bN_neg rfl, gP hg] at e
    exact ⟨_, e, RsLe.refl _⟩
  · rw [bN_pos hc] at e
    rw [beq_eq_false_iff_ne.2 hc, cond_false]
    refine ⟨_, e, .cons ?_ (RsLe.refl _)⟩
    unfold wD
    rw [show (0 : Int).natAbs = 0 from rfl, M6.dg_zero]
    exact RLe.agg (.cons (SLe.refl _) (.cons (SLe.nil _) .nil))

noncomputable def orc : Orc := orc3 pB (pI .u64) (pN .i64) sp
theorem fnok : FnOk Tryz.prog E 160 Tryz.f160 cod := fnOk ty_ok mixed (callsOk_of _ rfl (orcs_cons MWhole.ok orcs_nil) (ext_ok)) Tryz.func160 rfl rfl rfl
theorem ok : OrcOk Tryz.prog base.glob 160 orc := fnok.wk3 rfl spec
end MTold
end Go.Proofs.YtknafopmgaolmaaGreatDoor.W

/- gnomon/num.Shl -/
namespace Go.Proofs.YtknafopmgaolmaaGreatDoor.W
open Go Go.Proofs.YtknafopmgaolmaaGreatDoor.AI Go.Proofs.YtknafopmgaolmaaGreatDoor.M
namespace MShl
noncomputable def E : Env := { ({ base with C := callsOf [(150, MForm.orc), (159, NShl.orc), (160, MTold.orc)] }) with nt := 29, own := [26], keep := fun k => (tlook [] k).getD [], cut := tlook [] }
noncomputable def cod : Code := (Go.Proofs.Tryz.f104.body).getD .skip
theorem nok : namesOk E cod = true := by kernel_rfl
theorem start (a1 : Bool) (a2 : List Int) (b : Int) : evalFn E Go.Proofs.Tryz.f104 cod [D.agg [S.sc (Value.bool a1), S.ints IntKind.u64 a2], D.s (S.sc (Value.int IntKind.i64 b))] = bcase (decide (b < (0 : Int))) (some [D.agg [S.sc (Value.bool false), S.sc (Value.slice none (0 : Nat) (0 : Nat))], D.s (S.sc (Value.int IntKind.i64 (1 : Int)))]) (gif (a2.length ≤ (1099511627776 : Nat)) (bcase (!MForm.formI (a1, a2)) (some [D.agg [S.sc (Value.bool false), S.sc (Value.slice none (0 : Nat) (0 : Nat))], D.s (S.sc (Value.int IntKind.i64 (2 : Int)))]) (gif (M6.Nrm a2 ∧ a2.length ≤ (8192 : Nat) ∧ (0 : Int) ≤ b ∧ b < (4611686018427387904 : Int)) (gif (M6.Nrm (bif NShl.shlOk (M6.val a2) b.toNat then M6.dg (M6.val a2 * (2 : Nat) ^ b.toNat) else []) ∧ (bif NShl.shlOk (M6.val a2) b.toNat then M6.dg (M6.val a2 * (2 : Nat) ^ b.toNat) else []).length ≤ (1099511627776 : Nat)) (some [D.agg [S.sc (Value.bool (isNeg (bif (bif NShl.shlOk (M6.val a2) b.toNat then (0 : Int) else (5 : Int)) == (0 : Int) then zs a1 (M6.val (bif NShl.shlOk (M6.val a2) b.toNat then M6.dg (M6.val a2 * (2 : Nat) ^ b.toNat) else [])) else (0 : Int)))), S.ints IntKind.u64 (M6.dg (bif (bif NShl.shlOk (M6.val a2) b.toNat then (0 : Int) else (5 : Int)) == (0 : Int) then zs a1 (M6.val (bif NShl.shlOk (M6.val a2) b.toNat then M6.dg (M6.val a2 * (2 : Nat) ^ b.toNat) else [])) else (0 : Int)).natAbs)], D.s (S.sc (Value.int IntKind.i64 (bif NShl.shlOk (M6.val a2) b.toNat then (0 : Int) else (5 : Int))))]))))) := (evalFn_J rfl nok _).trans (by kernel_rfl)
-- stuck: 0
end MShl
namespace MShl
theorem shl_fit (n k : Nat) : NShl.shlOk n k = fit (n * 2 ^ k) := by
  unfold NShl.shlOk fit
  by_cases h : n = 0
  · subst h
    rw [Nat.zero_mul]
    rfl
  · rw [decide_eq_false h, Bool.false_or, Nat.mul_comm, bl_mul h, Nat.add_comm]
noncomputable def sp (x : Bool × List Int) (n : Int) : Prop × List D := (Wok x ∧ 0 ≤ n ∧ n < 4611686018427387904, wE (fit (M6.val x.2 * 2 ^ n.toNat)) (wv x * ((2 ^ n.toNat : Nat) : Int)))
theorem spec (x : Bool × List Int) (n : Int) (h : (sp x n).1) : evalFn E Tryz.f104 cod [(pG (.pair sB (sI .u64))).put x, (pN .i64).put n] = some (sp x n).2 := by
  obtain ⟨hx, h0, h1⟩ := h
  refine (start x.1 x.2 n).trans ?_
  have l1 := hx.len
  have f1 := MForm.form_ok hx
  obtain ⟨p, a⟩ := x
  have n1 : M6.Nrm a := hx.1
  try dsimp only at *
  unfold sp
  try dsimp only
  have hs : wv (p, a) * ((2 ^ n.toNat : Nat) : Int) = zs p (M6.val a * 2 ^ n.toNat) := by
    unfold wv zs
    cases p with
    | true => simp [Int.neg_mul]
    | false => simp
  rw [bD_neg (by omega), gP (by omega), f1, Bool.not_true, bF, gP ⟨n1, l1, h0, h1⟩, gP (nrm_bif (fun h => by rw [shl_fit] at h; exact fit_le h)), wE_told, shl_fit, hs]

noncomputable def orc : Orc := orc2 (pG (.pair sB (sI .u64))) (pN .i64) sp
theorem fnok : FnOk Tryz.prog E 104 Tryz.f104 cod := fnOk ty_ok mixed (callsOk_of _ rfl (orcs_cons MForm.ok (orcs_cons NShl.ok (orcs_cons MTold.ok orcs_nil))) (ext_ok)) Tryz.func104 rfl rfl rfl
theorem ok : OrcOk Tryz.prog base.glob 104 orc := fnok.ok2 rfl spec
end MShl
end Go.Proofs.YtknafopmgaolmaaGreatDoor.W

/- gnomon/nat.Add -/
namespace Go.Proofs.YtknafopmgaolmaaGreatDoor.W
open Go Go.Proofs.YtknafopmgaolmaaGreatDoor.AI Go.Proofs.YtknafopmgaolmaaGreatDoor.M
namespace NAdd
noncomputable def E : Env := { ({ base with C := callsOf [(202, NForm.orc), (204, NTold.orc)] }) with nt := 65, own := [62], keep := fun k => (tlook [(8, [0, 1, 6, 7, 30, 31])] k).getD [], cut := tlook [(3, [0, 1]), (5, [0, 1]), (13, [0, 1, 6, 7, 8, 9, 30, 31])] }
noncomputable def cod : Code := (Go.Proofs.Tryz.f161.body).getD .skip
theorem nok : namesOk E cod = true := by kernel_rfl
noncomputable def J3 (xs0 : List Int) (xs1 : List Int) : Option (List D) := ctO E Go.Proofs.Tryz.f161 cod 3 [(A.v (V.one (L.s (S.ints IntKind.u64 xs0))), none), (A.v (V.one (L.s (S.ints IntKind.u64 xs1))), none)]
noncomputable def J5 (xs0 : List Int) (xs1 : List Int) : Option (List D) := ctO E Go.Proofs.Tryz.f161 cod 5 [(A.v (V.one (L.s (S.ints IntKind.u64 xs0))), none), (A.v (V.one (L.s (S.ints IntKind.u64 xs1))), none)]
noncomputable def L8 (xs0 : List Int) (xs1 : List Int) (m2 : Nat) (xs3 : List Int) (x4 : Int) (x5 : Int) (x6 : Int) : Option (List D) := lpO E Go.Proofs.Tryz.f161 cod 8 [(A.v (V.one (L.s (S.ints IntKind.u64 xs0))), none), (A.v (V.one (L.s (S.ints IntKind.u64 xs1))), none), (A.v (V.one (L.buf (2 : Nat) m2)), some { e := (23 : Nat), cont := Cont.ints IntKind.u64 xs3 }), (A.v (V.one (L.s (S.sc (Value.int IntKind.u64 x4)))), none), (A.v (V.one (L.s (S.sc (Value.int IntKind.i64 x5)))), none), (A.v (V.one (L.s (S.sc (Value.int IntKind.i64 x6)))), none)]
noncomputable def J13 (xs0 : List Int) (xs1 : List Int) (m2 : Nat) (xs3 : List Int) (x4 : Int) (x5 : Int) (x6 : Int) (x7 : Int) (x8 : Int) : Option (List D) := ctO E Go.Proofs.Tryz.f161 cod 13 [(A.v (V.one (L.s (S.ints IntKind.u64 xs0))), none), (A.v (V.one (L.s (S.ints IntKind.u64 xs1))), none), (A.v (V.one (L.buf (2 : Nat) m2)), some { e := (23 : Nat), cont := Cont.ints IntKind.u64 xs3 }), (A.v (V.one (L.s (S.sc (Value.int IntKind.u64 x4)))), none), (A.v (V.one (L.s (S.sc (Value.int IntKind.i64 x5)))), none), (A.v (V.one (L.s (S.sc (Value.int IntKind.u64 x6)))), none), (A.v (V.one (L.s (S.sc (Value.int IntKind.i64 x7)))), none), (A.v (V.one (L.s (S.sc (Value.int IntKind.i64 x8)))), none)]
theorem start (a : List Int) (b : List Int) : evalFn E Go.Proofs.Tryz.f161 cod [D.s (S.ints IntKind.u64 a), D.s (S.ints IntKind.u64 b)] = gif (a.length ≤ (1099511627776 : Nat)) (bcase (!NForm.formB a) (some [D.s (S.sc (Value.slice none (0 : Nat) (0 : Nat))), D.s (S.sc (Value.int IntKind.i64 (2 : Int)))]) (gif (b.length ≤ (1099511627776 : Nat)) (bcase (!NForm.formB b) (some [D.s (S.sc (Value.slice none (0 : Nat) (0 : Nat))), D.s (S.sc (Value.int IntKind.i64 (2 : Int)))]) (NAdd.J3 a b)))) := (evalFn_J rfl nok _).trans (by kernel_rfl)
theorem J3_eq (xs0 : List Int) (xs1 : List Int) : J3 xs0 xs1 = bcase (decide ((↑xs0.length : Int) < (↑xs1.length : Int))) (NAdd.J5 xs1 xs0) (NAdd.J5 xs0 xs1) := (cutAt_J rfl nok 3 _).trans (by kernel_rfl)
theorem J5_eq (xs0 : List Int) (xs1 : List Int) : J5 xs0 xs1 = if (0 : Int) ≤ IntKind.i64.wrap ((↑xs0.length : Int) + (1 : Int)) ∧ IntKind.i64.wrap ((↑xs0.length : Int) + (1 : Int)) ≤ IntKind.i64.wrap ((↑xs0.length : Int) + (1 : Int)) ∧ IntKind.i64.wrap ((↑xs0.length : Int) + (1 : Int)) ≤ (8796093022208 : Int) then NAdd.L8 xs0 xs1 (IntKind.i64.wrap ((↑xs0.length : Int) + (1 : Int))).toNat (List.replicate (IntKind.i64.wrap ((↑xs0.length : Int) + (1 : Int))).toNat (0 : Int)) (0 : Int) (↑xs0.length : Int) (0 : Int) else none := (cutAt_J rfl nok 5 _).trans (by kernel_rfl)
theorem L8_eq (xs0 : List Int) (xs1 : List Int) (m2 : Nat) (xs3 : List Int) (x4 : Int) (x5 : Int) (x6 : Int) : L8 xs0 xs1 m2 xs3 x4 x5 x6 = bcase (decide (x6 < x5)) (bcase (decide (x6 < (↑xs1.length : Int))) (if (0 : Int) ≤ x6 ∧ x6 < (↑xs1.length : Int) then NAdd.J13 xs0 xs1 m2 xs3 x4 x6 (xs1.getD x6.toNat (0 : Int)) x5 x6 else none) (NAdd.J13 xs0 xs1 m2 xs3 x4 x6 (0 : Int) x5 x6)) (if (0 : Int) ≤ (↑xs0.length : Int) ∧ (↑xs0.length : Int) < (↑m2 : Int) then gif (M6.Dig (xs3.set (↑xs0.length : Int).toNat x4) ∧ (xs3.set (↑xs0.length : Int).toNat x4).length ≤ (1099511627776 : Nat)) (some [D.s (S.ints IntKind.u64 (bif NTold.okN (M6.val (xs3.set (↑xs0.length : Int).toNat x4)) then M6.dg (M6.val (xs3.set (↑xs0.length : Int).toNat x4)) else [])), D.s (S.sc (Value.int IntKind.i64 (bif NTold.okN (M6.val (xs3.set (↑xs0.length : Int).toNat x4)) then (0 : Int) else (5 : Int))))]) else none) := (loopAt_J rfl nok 8 _).trans (by kernel_rfl)
theorem J13_eq (xs0 : List Int) (xs1 : List Int) (m2 : Nat) (xs3 : List Int) (x4 : Int) (x5 : Int) (x6 : Int) (x7 : Int) (x8 : Int) : J13 xs0 xs1 m2 xs3 x4 x5 x6 x7 x8 = if (0 : Int) ≤ x5 ∧ x5 < (↑xs0.length : Int) then gif ((0 : Int) ≤ xs0.getD x5.toNat (0 : Int) ∧ (0 : Int) ≤ x6 ∧ (0 : Int) ≤ x4 ∧ x4 ≤ (1 : Int)) (if (0 : Int) ≤ x5 ∧ x5 < (↑m2 : Int) then NAdd.L8 xs0 xs1 m2 (xs3.set x5.toNat ((xs0.getD x5.toNat (0 : Int) + x6 + x4) % (18446744073709551616 : Int))) ((xs0.getD x5.toNat (0 : Int) + x6 + x4) / (18446744073709551616 : Int)) x7 (IntKind.i64.wrap (x8 + (1 : Int))) else none) else none := (cutAt_J rfl nok 13 _).trans (by kernel_rfl)
-- stuck: 0
end NAdd
namespace NAdd
theorem step {a b pre : List Int} {c : Int} {i k : Nat} (ha : M6.Dig a) (hb : M6.Dig b) (hp : pre.length = i) (hi : i < a.length) (hl : a.length ≤ 8192) (h0 : 0 ≤ c) (h1 : c ≤ 1) :
    L8 a b (i + (k + 1)) (pre ++ List.replicate (k + 1) 0) c a.length i = L8 a b ((i + 1) + k) ((pre ++ [(a.getD i 0 + b.getD i 0 + c) % 18446744073709551616]) ++ List.replicate k 0) ((a.getD i 0 + b.getD i 0 + c) / 18446744073709551616) a.length ((i + 1 : Nat) : Int) := by
  have g1 := ha.get i
  have g2 := hb.get i
  have hJ : ∀ y : Int, 0 ≤ y → J13 a b (i + (k + 1)) (pre ++ List.replicate (k + 1) 0) c i y a.length i = L8 a b ((i + 1) + k) ((pre ++ [(a.getD i 0 + y + c) % 18446744073709551616]) ++ List.replicate k 0) ((a.getD i 0 + y + c) / 18446744073709551616) a.length ((i + 1 : Nat) : Int) := by
    intro y hy
    rw [J13_eq, if_pos (by omega), Int.toNat_natCast, gP ⟨g1.1, hy, h0, h1⟩, if_pos (by omega), set_fill hp, wrap_i64 (by omega) (by omega), show i + (k + 1) = (i + 1) + k from by omega]
    rfl
  rw [L8_eq, bD_pos (by omega)]
  by_cases h : i < b.length
  · rw [bD_pos (by omega), if_pos (by omega), Int.toNat_natCast, hJ _ g2.1]
  · rw [bD_neg (by omega), hJ 0 (by omega), M6.getD_none (a := b) (by omega)]
theorem L {a b : List Int} (ha : M6.Dig a) (hb : M6.Dig b) (hl : a.length ≤ 8192) (hba : b.length ≤ a.length) : ∀ (k i : Nat) (pre : List Int) (c : Int), i + k = a.length → pre.length = i → M6.Dig pre → 0 ≤ c → c ≤ 1 →
    M6.val pre + 18446744073709551616 ^ i * c.toNat = M6.val (a.take i) + M6.val (b.take i) →
    L8 a b (i + (k + 1)) (pre ++ List.replicate (k + 1) 0) c a.length i = some [D.s (.ints .u64 (bif NTold.okN (M6.val a + M6.val b) then M6.dg (M6.val a + M6.val b) else [])), D.s (.sc (.int .i64 (bif NTold.okN (M6.val a + M6.val b) then 0 else 5)))] := by
  intro k
  induction k with
  | zero =>
    intro i pre c hi hp hd h0 h1 hv
    have hia : i = a.length := by omega
    subst hia
    have hs : (pre ++ List.replicate (0 + 1) 0).set a.length c = pre ++ [c] := by rw [set_fill hp]; simp
    have hv2 : M6.val (pre ++ [c]) = M6.val a + M6.val b := by
      rw [M6.val_push, hp, hv, M6.val_take_ge (Nat.le_refl _), M6.val_take_ge (by omega)]
    rw [L8_eq, bD_neg (by omega), if_pos (by omega), Int.toNat_natCast, hs, hv2, gP ⟨M6.dig_push hd (by omega), by simp; omega⟩]
  | succ k ih =>
    intro i pre c hi hp hd h0 h1 hv
    have g1 := ha.get i
    have g2 := hb.get i
    rw [step ha hb hp (by omega) hl h0 h1]
    refine ih (i + 1) _ _ (by omega) (by simp [hp]) (M6.dig_push hd (by omega)) (by omega) (by omega) ?_
    rw [M6.val_push, M6.val_take_one, M6.val_take_one, hp, Nat.pow_succ, Nat.mul_assoc]
    generalize a.getD i 0 = x at *
    generalize b.getD i 0 = y at *
    generalize 18446744073709551616 ^ i = B at *
    have e : 18446744073709551616 * ((x + y + c) / 18446744073709551616).toNat + ((x + y + c) % 18446744073709551616).toNat = c.toNat + x.toNat + y.toNat := by omega
    have e2 : B * (18446744073709551616 * ((x + y + c) / 18446744073709551616).toNat) + B * ((x + y + c) % 18446744073709551616).toNat = B * c.toNat + B * x.toNat + B * y.toNat := by
      rw [← Nat.mul_add, e, Nat.mul_add, Nat.mul_add]
    omega
theorem J5l {a b : List Int} (ha : M6.Dig a) (hb : M6.Dig b) (hl : a.length ≤ 8192) (hba : b.length ≤ a.length) : J5 a b = some [D.s (.ints .u64 (bif NTold.okN (M6.val a + M6.val b) then M6.dg (M6.val a + M6.val b) else [])), D.s (.sc (.int .i64 (bif NTold.okN (M6.val a + M6.val b) then 0 else 5)))] := by
  rw [J5_eq, wrap_i64 (by omega) (by omega), if_pos ⟨by omega, by omega, by omega⟩, show ((a.length : Int) + 1).toNat = 0 + (a.length + 1) from by omega]
  have := L ha hb hl hba a.length 0 [] 0 (by omega) rfl M6.dig_nil (by omega) (by omega) (by simp [M6.val])
  rw [List.nil_append] at this
  rw [show 0 + (a.length + 1) = a.length + 1 from by omega] at this ⊢
  exact this
noncomputable def sp (a b : List Int) : Prop × List D := (M6.Nrm a ∧ M6.Nrm b ∧ a.length ≤ 8192 ∧ b.length ≤ 8192, [.s (.ints .u64 (bif NTold.okN (M6.val a + M6.val b) then M6.dg (M6.val a + M6.val b) else [])), .s (.sc (.int .i64 (bif NTold.okN (M6.val a + M6.val b) then 0 else 5)))])
theorem spec (a b : List Int) (h : (sp a b).1) : evalFn E Tryz.f161 cod [(pI .u64).put a, (pI .u64).put b] = some (sp a b).2 := by
  obtain ⟨ha, hb, h1, h2⟩ := h
  refine (start a b).trans ?_
  rw [gP (by omega), gP (by omega), NForm.form_of ha h1, NForm.form_of hb h2, Bool.not_true, bF, bF, J3_eq]
  by_cases hl : a.length < b.length
  · rw [bD_pos (by omega), J5l hb.dig ha.dig h2 (by omega), Nat.add_comm]
    rfl
  · rw [bD_neg (by omega), J5l ha.dig hb.dig h1 (by omega)]
    rfl

noncomputable def orc : Orc := orc2 (pI .u64) (pI .u64) sp
theorem fnok : FnOk Tryz.prog E 161 Tryz.f161 cod := fnOk ty_ok mixed (callsOk_of _ rfl (orcs_cons NForm.ok (orcs_cons NTold.ok orcs_nil)) (ext_ok)) Tryz.func161 rfl rfl rfl
theorem ok : OrcOk Tryz.prog base.glob 161 orc := fnok.ok2 rfl spec
end NAdd
end Go.Proofs.YtknafopmgaolmaaGreatDoor.W

/- gnomon/nat.Cmp -/
namespace Go.Proofs.YtknafopmgaolmaaGreatDoor.W
open Go Go.Proofs.YtknafopmgaolmaaGreatDoor.AI Go.Proofs.YtknafopmgaolmaaGreatDoor.M
namespace NCmp
noncomputable def E : Env := { ({ base with C := callsOf [(207, NTrim.orc)] }) with nt := 47, own := [], keep := fun k => (tlook [(7, [5, 6, 7])] k).getD [], cut := tlook [] }
noncomputable def cod : Code := (Go.Proofs.Tryz.f162.body).getD .skip
theorem nok : namesOk E cod = true := by kernel_rfl
noncomputable def L7 (xs0 : List Int) (xs1 : List Int) (x2 : Int) : Option (List D) := lpO E Go.Proofs.Tryz.f162 cod 7 [(A.v (V.one (L.s (S.ints IntKind.u64 xs0))), none), (A.v (V.one (L.s (S.ints IntKind.u64 xs1))), none), (A.v (V.one (L.s (S.sc (Value.int IntKind.i64 x2)))), none)]
theorem start (a : List Int) (b : List Int) : evalFn E Go.Proofs.Tryz.f162 cod [D.s (S.ints IntKind.u64 a), D.s (S.ints IntKind.u64 b)] = gif (M6.Dig a ∧ a.length ≤ (1099511627776 : Nat)) (gif (M6.Dig b ∧ b.length ≤ (1099511627776 : Nat)) (bcase ((↑(M6.dg (M6.val a)).length : Int) != (↑(M6.dg (M6.val b)).length : Int)) (bcase (decide ((↑(M6.dg (M6.val a)).length : Int) < (↑(M6.dg (M6.val b)).length : Int))) (some [D.s (S.sc (Value.int IntKind.i64 (-1 : Int)))]) (some [D.s (S.sc (Value.int IntKind.i64 (1 : Int)))])) (NCmp.L7 (M6.dg (M6.val a)) (M6.dg (M6.val b)) (IntKind.i64.wrap ((↑(M6.dg (M6.val a)).length : Int) - (1 : Int)))))) := (evalFn_J rfl nok _).trans (by kernel_rfl)
theorem L7_eq (xs0 : List Int) (xs1 : List Int) (x2 : Int) : L7 xs0 xs1 x2 = bcase (decide ((0 : Int) ≤ x2)) (if (0 : Int) ≤ x2 ∧ x2 < (↑xs0.length : Int) then if (0 : Int) ≤ x2 ∧ x2 < (↑xs1.length : Int) then bcase (xs0.getD x2.toNat (0 : Int) != xs1.getD x2.toNat (0 : Int)) (if (0 : Int) ≤ x2 ∧ x2 < (↑xs0.length : Int) then if (0 : Int) ≤ x2 ∧ x2 < (↑xs1.length : Int) then bcase (decide (xs0.getD x2.toNat (0 : Int) < xs1.getD x2.toNat (0 : Int))) (some [D.s (S.sc (Value.int IntKind.i64 (-1 : Int)))]) (some [D.s (S.sc (Value.int IntKind.i64 (1 : Int)))]) else none else none) (NCmp.L7 xs0 xs1 (IntKind.i64.wrap (x2 - (1 : Int)))) else none else none) (some [D.s (S.sc (Value.int IntKind.i64 (0 : Int)))]) := (loopAt_J rfl nok 7 _).trans (by kernel_rfl)
-- stuck: 0
end NCmp
namespace NCmp
noncomputable def sp (a b : List Int) : Prop × List D := (M6.Dig a ∧ M6.Dig b ∧ a.length ≤ 1099511627776 ∧ b.length ≤ 1099511627776, [.s (.sc (.int .i64 (cmpN (M6.val a) (M6.val b))))])
theorem L {a b : List Int} (ha : M6.Dig a) (hb : M6.Dig b) (hl : a.length = b.length) (hm : a.length ≤ 4398046511104) : ∀ n : Nat, n ≤ a.length → L7 a b ((n : Int) - 1) = some [D.s (.sc (.int .i64 (cmpN (M6.val (a.take n)) (M6.val (b.take n)))))]
  | 0, _ => by
    rw [L7_eq, bD_neg (by omega)]
    simp [cmpN, M6.val]
  | n + 1, h => by
    have e : (((n + 1 : Nat) : Int) - 1) = (n : Int) := by omega
    rw [e, L7_eq, bD_pos (by omega), if_pos (by omega), if_pos (by omega), if_pos (by omega), if_pos (by omega), Int.toNat_natCast, wrap_i64 (by omega) (by omega), L ha hb hl hm n (by omega)]
    have h1 := ha.get n
    have h2 := hb.get n
    have l1 := M6.val_take_lt ha n
    have l2 := M6.val_take_lt hb n
    rw [M6.val_take_one, M6.val_take_one]
    generalize a.getD n 0 = x at *
    generalize b.getD n 0 = y at *
    generalize M6.val (a.take n) = u at *
    generalize M6.val (b.take n) = v at *
    generalize 18446744073709551616 ^ n = B at *
    by_cases hxy : x < y
    · rw [bN_pos (by omega), bD_pos hxy]
      have : B * x.toNat + B ≤ B * y.toNat := by
        have : B * (x.toNat + 1) ≤ B * y.toNat := Nat.mul_le_mul_left _ (by omega)
        rw [Nat.mul_add] at this; omega
      unfold cmpN
      rw [if_pos (by omega)]
    · by_cases hyx : y < x
      · rw [bN_pos (by omega), bD_neg hxy]
        have : B * y.toNat + B ≤ B * x.toNat := by
          have : B * (y.toNat + 1) ≤ B * x.toNat := Nat.mul_le_mul_left _ (by omega)
          rw [Nat.mul_add] at this; omega
        unfold cmpN
        rw [if_neg (by omega), if_pos (by omega)]
      · have : x = y := by omega
        subst this
        rw [bN_neg rfl, cmpN_add]
theorem spec (a b : List Int) (h : (sp a b).1) : evalFn E Tryz.f162 cod [(pI .u64).put a, (pI .u64).put b] = some (sp a b).2 := by
  obtain ⟨ha, hb, h1, h2⟩ := h
  refine (start a b).trans ?_
  have la := M6.len_val ha
  have lb := M6.len_val hb
  rw [gP ⟨ha, h1⟩, gP ⟨hb, h2⟩]
  show _ = some [D.s (.sc (.int .i64 (cmpN (M6.val a) (M6.val b))))]
  have na := M6.nrm_dg (M6.val a)
  have nb := M6.nrm_dg (M6.val b)
  have va := M6.val_dg (M6.val a)
  have vb := M6.val_dg (M6.val b)
  rw [← va, ← vb]
  generalize M6.dg (M6.val a) = x at *
  generalize M6.dg (M6.val b) = y at *
  have e1 := M6.nrm_dg' na
  have e2 := M6.nrm_dg' nb
  rw [e1, e2]
  by_cases hl : x.length = y.length
  · rw [bN_neg (by omega), wrap_i64 (by omega) (by omega), L na.dig nb.dig hl (by omega) x.length (Nat.le_refl _), M6.val_take_ge (Nat.le_refl _), M6.val_take_ge (by omega)]
  · rw [bN_pos (by omega)]
    by_cases hlt : x.length < y.length
    · have := M6.nrm_len_lt na.dig nb hlt
      rw [bD_pos (by omega)]
      unfold cmpN
      rw [if_pos this]
    · have := M6.nrm_len_lt nb.dig na (by omega)
      rw [bD_neg (by omega)]
      unfold cmpN
      rw [if_neg (by omega), if_pos this]

noncomputable def orc : Orc := orc2 (pI .u64) (pI .u64) sp
theorem fnok : FnOk Tryz.prog E 162 Tryz.f162 cod := fnOk ty_ok mixed (callsOk_of _ rfl (orcs_cons NTrim.ok orcs_nil) (ext_ok)) Tryz.func162 rfl rfl rfl
theorem ok : OrcOk Tryz.prog base.glob 162 orc := fnok.ok2 rfl spec
end NCmp
end Go.Proofs.YtknafopmgaolmaaGreatDoor.W

/- gnomon/nat.Sub -/
namespace Go.Proofs.YtknafopmgaolmaaGreatDoor.W
open Go Go.Proofs.YtknafopmgaolmaaGreatDoor.AI Go.Proofs.YtknafopmgaolmaaGreatDoor.M
namespace NSub
noncomputable def E : Env := { ({ base with C := callsOf [(202, NForm.orc), (204, NTold.orc), (162, NCmp.orc)] }) with nt := 56, own := [53], keep := fun k => (tlook [(8, [0, 1, 6, 7, 26, 27])] k).getD [], cut := tlook [(3, [0, 1]), (13, [0, 1, 6, 7, 8, 9, 26, 27])] }
noncomputable def cod : Code := (Go.Proofs.Tryz.f163.body).getD .skip
theorem nok : namesOk E cod = true := by kernel_rfl
noncomputable def J3 (xs0 : List Int) (xs1 : List Int) : Option (List D) := ctO E Go.Proofs.Tryz.f163 cod 3 [(A.v (V.one (L.s (S.ints IntKind.u64 xs0))), none), (A.v (V.one (L.s (S.ints IntKind.u64 xs1))), none)]
noncomputable def L8 (xs0 : List Int) (xs1 : List Int) (m2 : Nat) (xs3 : List Int) (x4 : Int) (x5 : Int) (x6 : Int) : Option (List D) := lpO E Go.Proofs.Tryz.f163 cod 8 [(A.v (V.one (L.s (S.ints IntKind.u64 xs0))), none), (A.v (V.one (L.s (S.ints IntKind.u64 xs1))), none), (A.v (V.one (L.buf (2 : Nat) m2)), some { e := (23 : Nat), cont := Cont.ints IntKind.u64 xs3 }), (A.v (V.one (L.s (S.sc (Value.int IntKind.u64 x4)))), none), (A.v (V.one (L.s (S.sc (Value.int IntKind.i64 x5)))), none), (A.v (V.one (L.s (S.sc (Value.int IntKind.i64 x6)))), none)]
noncomputable def J13 (xs0 : List Int) (xs1 : List Int) (m2 : Nat) (xs3 : List Int) (x4 : Int) (x5 : Int) (x6 : Int) (x7 : Int) (x8 : Int) : Option (List D) := ctO E Go.Proofs.Tryz.f163 cod 13 [(A.v (V.one (L.s (S.ints IntKind.u64 xs0))), none), (A.v (V.one (L.s (S.ints IntKind.u64 xs1))), none), (A.v (V.one (L.buf (2 : Nat) m2)), some { e := (23 : Nat), cont := Cont.ints IntKind.u64 xs3 }), (A.v (V.one (L.s (S.sc (Value.int IntKind.u64 x4)))), none), (A.v (V.one (L.s (S.sc (Value.int IntKind.i64 x5)))), none), (A.v (V.one (L.s (S.sc (Value.int IntKind.u64 x6)))), none), (A.v (V.one (L.s (S.sc (Value.int IntKind.i64 x7)))), none), (A.v (V.one (L.s (S.sc (Value.int IntKind.i64 x8)))), none)]
theorem start (a : List Int) (b : List Int) : evalFn E Go.Proofs.Tryz.f163 cod [D.s (S.ints IntKind.u64 a), D.s (S.ints IntKind.u64 b)] = gif (a.length ≤ (1099511627776 : Nat)) (bcase (!NForm.formB a) (some [D.s (S.sc (Value.slice none (0 : Nat) (0 : Nat))), D.s (S.sc (Value.int IntKind.i64 (2 : Int)))]) (gif (b.length ≤ (1099511627776 : Nat)) (bcase (!NForm.formB b) (some [D.s (S.sc (Value.slice none (0 : Nat) (0 : Nat))), D.s (S.sc (Value.int IntKind.i64 (2 : Int)))]) (NSub.J3 a b)))) := (evalFn_J rfl nok _).trans (by kernel_rfl)
theorem J3_eq (xs0 : List Int) (xs1 : List Int) : J3 xs0 xs1 = gif (M6.Dig xs0 ∧ M6.Dig xs1 ∧ xs0.length ≤ (1099511627776 : Nat) ∧ xs1.length ≤ (1099511627776 : Nat)) (bcase (decide (cmpN (M6.val xs0) (M6.val xs1) < (0 : Int))) (some [D.s (S.sc (Value.slice none (0 : Nat) (0 : Nat))), D.s (S.sc (Value.int IntKind.i64 (3 : Int)))]) (if (0 : Int) ≤ (↑xs0.length : Int) ∧ (↑xs0.length : Int) ≤ (↑xs0.length : Int) ∧ (↑xs0.length : Int) ≤ (8796093022208 : Int) then NSub.L8 xs0 xs1 (↑xs0.length : Int).toNat (List.replicate (↑xs0.length : Int).toNat (0 : Int)) (0 : Int) (↑xs0.length : Int) (0 : Int) else none)) := (cutAt_J rfl nok 3 _).trans (by kernel_rfl)
theorem L8_eq (xs0 : List Int) (xs1 : List Int) (m2 : Nat) (xs3 : List Int) (x4 : Int) (x5 : Int) (x6 : Int) : L8 xs0 xs1 m2 xs3 x4 x5 x6 = bcase (decide (x6 < x5)) (bcase (decide (x6 < (↑xs1.length : Int))) (if (0 : Int) ≤ x6 ∧ x6 < (↑xs1.length : Int) then NSub.J13 xs0 xs1 m2 xs3 x4 x6 (xs1.getD x6.toNat (0 : Int)) x5 x6 else none) (NSub.J13 xs0 xs1 m2 xs3 x4 x6 (0 : Int) x5 x6)) (gif (M6.Dig xs3 ∧ xs3.length ≤ (1099511627776 : Nat)) (some [D.s (S.ints IntKind.u64 (bif NTold.okN (M6.val xs3) then M6.dg (M6.val xs3) else [])), D.s (S.sc (Value.int IntKind.i64 (bif NTold.okN (M6.val xs3) then (0 : Int) else (5 : Int))))])) := (loopAt_J rfl nok 8 _).trans (by kernel_rfl)
theorem J13_eq (xs0 : List Int) (xs1 : List Int) (m2 : Nat) (xs3 : List Int) (x4 : Int) (x5 : Int) (x6 : Int) (x7 : Int) (x8 : Int) : J13 xs0 xs1 m2 xs3 x4 x5 x6 x7 x8 = if (0 : Int) ≤ x5 ∧ x5 < (↑xs0.length : Int) then gif ((0 : Int) ≤ xs0.getD x5.toNat (0 : Int) ∧ (0 : Int) ≤ x6 ∧ x6 < (18446744073709551616 : Int) ∧ (0 : Int) ≤ x4 ∧ x4 ≤ (1 : Int)) (if (0 : Int) ≤ x5 ∧ x5 < (↑m2 : Int) then NSub.L8 xs0 xs1 m2 (xs3.set x5.toNat ((xs0.getD x5.toNat (0 : Int) - x6 - x4) % (18446744073709551616 : Int))) (if xs0.getD x5.toNat (0 : Int) < x6 + x4 then (1 : Int) else (0 : Int)) x7 (IntKind.i64.wrap (x8 + (1 : Int))) else none) else none := (cutAt_J rfl nok 13 _).trans (by kernel_rfl)
-- stuck: 0
end NSub
namespace NSub
theorem step {a b pre : List Int} {o : Int} {i k : Nat} (ha : M6.Dig a) (hb : M6.Dig b) (hp : pre.length = i) (hi : i < a.length) (hl : a.length ≤ 8192) (h0 : 0 ≤ o) (h1 : o ≤ 1) :
    L8 a b (i + (k + 1)) (pre ++ List.replicate (k + 1) 0) o a.length i = L8 a b ((i + 1) + k) ((pre ++ [(a.getD i 0 - b.getD i 0 - o) % 18446744073709551616]) ++ List.replicate k 0) (if a.getD i 0 < b.getD i 0 + o then 1 else 0) a.length ((i + 1 : Nat) : Int) := by
  have g1 := ha.get i
  have g2 := hb.get i
  have hJ : ∀ y : Int, 0 ≤ y → y < 18446744073709551616 → J13 a b (i + (k + 1)) (pre ++ List.replicate (k + 1) 0) o i y a.length i = L8 a b ((i + 1) + k) ((pre ++ [(a.getD i 0 - y - o) % 18446744073709551616]) ++ List.replicate k 0) (if a.getD i 0 < y + o then 1 else 0) a.length ((i + 1 : Nat) : Int) := by
    intro y hy hy'
    rw [J13_eq, if_pos (by omega), Int.toNat_natCast, gP ⟨g1.1, hy, hy', h0, h1⟩, if_pos (by omega), set_fill hp, wrap_i64 (by omega) (by omega), show i + (k + 1) = (i + 1) + k from by omega]
    rfl
  rw [L8_eq, bD_pos (by omega)]
  by_cases h : i < b.length
  · rw [bD_pos (by omega), if_pos (by omega), Int.toNat_natCast, hJ _ g2.1 g2.2]
  · rw [bD_neg (by omega), hJ 0 (by omega) (by omega), M6.getD_none (a := b) (by omega)]
theorem L {a b : List Int} (ha : M6.Dig a) (hb : M6.Dig b) (hl : a.length ≤ 8192) (hbl : b.length ≤ a.length) (hba : M6.val b ≤ M6.val a) : ∀ (k i : Nat) (pre : List Int) (o : Int), i + k = a.length → pre.length = i → M6.Dig pre → 0 ≤ o → o ≤ 1 →
    M6.val pre + M6.val (b.take i) = M6.val (a.take i) + 18446744073709551616 ^ i * o.toNat →
    L8 a b (i + k) (pre ++ List.replicate k 0) o a.length i = some [D.s (.ints .u64 (M6.dg (M6.val a - M6.val b))), D.s (.sc (.int .i64 0))] := by
  intro k
  induction k with
  | zero =>
    intro i pre o hi hp hd h0 h1 hv
    have hxv := M6.val_lt hd
    rw [hp] at hxv
    rw [M6.val_take_ge (by omega), M6.val_take_ge (by omega)] at hv
    have : o = 0 := by
      by_cases ho : o = 0
      · exact ho
      · exfalso
        have : o = 1 := by omega
        subst this
        rw [show (1 : Int).toNat = 1 from rfl, Nat.mul_one] at hv
        omega
    subst this
    simp only [Int.toNat_zero, Nat.mul_zero, Nat.add_zero] at hv
    have hlen := M6.len_val hd
    have hok : NTold.okN (M6.val pre) = true := decide_eq_true (by omega)
    rw [L8_eq, bD_neg (by omega), List.replicate_zero, List.append_nil, gP ⟨hd, by omega⟩, hok, cond_true, cond_true, show M6.val pre = M6.val a - M6.val b from by omega]
  | succ k ih =>
    intro i pre o hi hp hd h0 h1 hv
    have g1 := ha.get i
    have g2 := hb.get i
    rw [step ha hb hp (by omega) hl h0 h1]
    refine ih (i + 1) _ _ (by omega) (by simp [hp]) (M6.dig_push hd (by omega)) (by split <;> omega) (by split <;> omega) ?_
    rw [M6.val_push, M6.val_take_one, M6.val_take_one, hp, Nat.pow_succ, Nat.mul_assoc]
    generalize a.getD i 0 = x at *
    generalize b.getD i 0 = y at *
    have e : ((x - y - o) % 18446744073709551616).toNat + y.toNat + o.toNat = x.toNat + 18446744073709551616 * (if x < y + o then 1 else 0 : Int).toNat := by split <;> omega
    generalize 18446744073709551616 ^ i = B at *
    have e2 := congrArg (B * ·) e
    simp only [Nat.mul_add] at e2
    omega
noncomputable def sp (a b : List Int) : Prop × List D := (M6.Nrm a ∧ M6.Nrm b ∧ a.length ≤ 8192 ∧ b.length ≤ 8192, [.s (.ints .u64 (M6.dg (M6.val a - M6.val b))), .s (.sc (.int .i64 (if M6.val a < M6.val b then 3 else 0)))])
theorem spec (a b : List Int) (h : (sp a b).1) : ∃ rs, evalFn E Tryz.f163 cod [(pI .u64).put a, (pI .u64).put b] = some rs ∧ RsLe rs (sp a b).2 := by
  obtain ⟨ha, hb, h1, h2⟩ := h
  have e := start a b
  rw [gP (by omega), gP (by omega), NForm.form_of ha h1, NForm.form_of hb h2, Bool.not_true, bF, bF, J3_eq, gP ⟨ha.dig, hb.dig, by omega, by omega⟩] at e
  unfold sp
  simp only
  by_cases hc : M6.val a < M6.val b
  · rw [bD_pos (by unfold cmpN; rw [if_pos hc]; omega)] at e
    rw [if_pos hc, show M6.val a - M6.val b = 0 from by omega, M6.dg_zero]
    exact ⟨_, e, .cons (RLe.nil _) (RsLe.refl _)⟩
  · have hbl : b.length ≤ a.length := by
      rcases Nat.lt_or_ge a.length b.length with h | h
      · have := M6.nrm_len_lt ha.dig hb h; omega
      · exact h
    have := L ha.dig hb.dig h1 hbl (by omega) a.length 0 [] 0 (by omega) rfl M6.dig_nil (by omega) (by omega) (by simp [M6.val])
    rw [bD_neg (by unfold cmpN; rw [if_neg hc]; split <;> omega), if_pos ⟨by omega, by omega, by omega⟩, Int.toNat_natCast] at e
    rw [List.nil_append, show 0 + a.length = a.length from by omega] at this
    rw [if_neg hc]
    exact ⟨_, e.trans this, RsLe.refl _⟩

noncomputable def orc : Orc := orc2 (pI .u64) (pI .u64) sp
theorem fnok : FnOk Tryz.prog E 163 Tryz.f163 cod := fnOk ty_ok mixed (callsOk_of _ rfl (orcs_cons NForm.ok (orcs_cons NTold.ok (orcs_cons NCmp.ok orcs_nil))) (ext_ok)) Tryz.func163 rfl rfl rfl
theorem ok : OrcOk Tryz.prog base.glob 163 orc := fnok.wk2 rfl spec
end NSub
end Go.Proofs.YtknafopmgaolmaaGreatDoor.W

/- gnomon/num.Add -/
namespace Go.Proofs.YtknafopmgaolmaaGreatDoor.W
open Go Go.Proofs.YtknafopmgaolmaaGreatDoor.AI Go.Proofs.YtknafopmgaolmaaGreatDoor.M
namespace MAdd
noncomputable def E : Env := { ({ base with C := callsOf [(150, MForm.orc), (161, NAdd.orc), (162, NCmp.orc), (163, NSub.orc), (160, MTold.orc)] }) with nt := 62, own := [36, 59], keep := fun k => (tlook [] k).getD [], cut := tlook [(3, [2, 3, 4]), (8, [2, 3, 4])] }
noncomputable def cod : Code := (Go.Proofs.Tryz.f105.body).getD .skip
theorem nok : namesOk E cod = true := by kernel_rfl
noncomputable def J3 (b0 : Bool) (xs1 : List Int) (b2 : Bool) (xs3 : List Int) (b4 : Bool) : Option (List D) := ctO E Go.Proofs.Tryz.f105 cod 3 [(A.v (V.one (L.ptr (0 : Nat) (0 : Nat))), some { e := (33 : Nat), cont := Cont.cells [S.sc (Value.bool b0), S.ints IntKind.u64 xs1] }), (A.v (V.one (L.ptr (1 : Nat) (0 : Nat))), some { e := (33 : Nat), cont := Cont.cells [S.sc (Value.bool b2), S.ints IntKind.u64 xs3] }), (A.v (V.one (L.ptr (2 : Nat) (0 : Nat))), some { e := (33 : Nat), cont := Cont.cells [S.sc (Value.bool b4), S.sc (Value.slice none (0 : Nat) (0 : Nat))] })]
noncomputable def J8 (b0 : Bool) (xs1 : List Int) (b2 : Bool) (xs3 : List Int) (b4 : Bool) : Option (List D) := ctO E Go.Proofs.Tryz.f105 cod 8 [(A.v (V.one (L.ptr (0 : Nat) (0 : Nat))), some { e := (33 : Nat), cont := Cont.cells [S.sc (Value.bool b0), S.ints IntKind.u64 xs1] }), (A.v (V.one (L.ptr (1 : Nat) (0 : Nat))), some { e := (33 : Nat), cont := Cont.cells [S.sc (Value.bool b2), S.ints IntKind.u64 xs3] }), (A.v (V.one (L.ptr (2 : Nat) (0 : Nat))), some { e := (33 : Nat), cont := Cont.cells [S.sc (Value.bool b4), S.sc (Value.slice none (0 : Nat) (0 : Nat))] })]
theorem start (a1 : Bool) (a2 : List Int) (b1 : Bool) (b2 : List Int) : evalFn E Go.Proofs.Tryz.f105 cod [D.agg [S.sc (Value.bool a1), S.ints IntKind.u64 a2], D.agg [S.sc (Value.bool b1), S.ints IntKind.u64 b2]] = gif (a2.length ≤ (1099511627776 : Nat)) (bcase (!MForm.formI (a1, a2)) (some [D.agg [S.sc (Value.bool false), S.sc (Value.slice none (0 : Nat) (0 : Nat))], D.s (S.sc (Value.int IntKind.i64 (2 : Int)))]) (gif (b2.length ≤ (1099511627776 : Nat)) (bcase (!MForm.formI (b1, b2)) (some [D.agg [S.sc (Value.bool false), S.sc (Value.slice none (0 : Nat) (0 : Nat))], D.s (S.sc (Value.int IntKind.i64 (2 : Int)))]) (MAdd.J3 a1 a2 b1 b2 false)))) := (evalFn_J rfl nok _).trans (by kernel_rfl)
theorem J3_eq (b0 : Bool) (xs1 : List Int) (b2 : Bool) (xs3 : List Int) (b4 : Bool) : J3 b0 xs1 b2 xs3 b4 = bcase (b0 == b2) (gif (M6.Nrm xs1 ∧ M6.Nrm xs3 ∧ xs1.length ≤ (8192 : Nat) ∧ xs3.length ≤ (8192 : Nat)) (gif (M6.Nrm (bif NTold.okN (M6.val xs1 + M6.val xs3) then M6.dg (M6.val xs1 + M6.val xs3) else []) ∧ (bif NTold.okN (M6.val xs1 + M6.val xs3) then M6.dg (M6.val xs1 + M6.val xs3) else []).length ≤ (1099511627776 : Nat)) (some [D.agg [S.sc (Value.bool (isNeg (bif (bif NTold.okN (M6.val xs1 + M6.val xs3) then (0 : Int) else (5 : Int)) == (0 : Int) then zs b0 (M6.val (bif NTold.okN (M6.val xs1 + M6.val xs3) then M6.dg (M6.val xs1 + M6.val xs3) else [])) else (0 : Int)))), S.ints IntKind.u64 (M6.dg (bif (bif NTold.okN (M6.val xs1 + M6.val xs3) then (0 : Int) else (5 : Int)) == (0 : Int) then zs b0 (M6.val (bif NTold.okN (M6.val xs1 + M6.val xs3) then M6.dg (M6.val xs1 + M6.val xs3) else [])) else (0 : Int)).natAbs)], D.s (S.sc (Value.int IntKind.i64 (bif NTold.okN (M6.val xs1 + M6.val xs3) then (0 : Int) else (5 : Int))))]))) (gif (M6.Dig xs1 ∧ M6.Dig xs3 ∧ xs1.length ≤ (1099511627776 : Nat) ∧ xs3.length ≤ (1099511627776 : Nat)) (bcase (decide (cmpN (M6.val xs1) (M6.val xs3) < (0 : Int))) (MAdd.J8 b2 xs3 b0 xs1 b4) (MAdd.J8 b0 xs1 b2 xs3 b4))) := (cutAt_J rfl nok 3 _).trans (by kernel_rfl)
theorem J8_eq (b0 : Bool) (xs1 : List Int) (b2 : Bool) (xs3 : List Int) (b4 : Bool) : J8 b0 xs1 b2 xs3 b4 = gif (M6.Nrm xs1 ∧ M6.Nrm xs3 ∧ xs1.length ≤ (8192 : Nat) ∧ xs3.length ≤ (8192 : Nat)) (gif (M6.Nrm (M6.dg (M6.val xs1 - M6.val xs3)) ∧ (M6.dg (M6.val xs1 - M6.val xs3)).length ≤ (1099511627776 : Nat)) (some [D.agg [S.sc (Value.bool (isNeg (bif (if M6.val xs1 < M6.val xs3 then (3 : Int) else (0 : Int)) == (0 : Int) then zs b0 (M6.val (M6.dg (M6.val xs1 - M6.val xs3))) else (0 : Int)))), S.ints IntKind.u64 (M6.dg (bif (if M6.val xs1 < M6.val xs3 then (3 : Int) else (0 : Int)) == (0 : Int) then zs b0 (M6.val (M6.dg (M6.val xs1 - M6.val xs3))) else (0 : Int)).natAbs)], D.s (S.sc (Value.int IntKind.i64 (if M6.val xs1 < M6.val xs3 then (3 : Int) else (0 : Int))))])) := (cutAt_J rfl nok 8 _).trans (by kernel_rfl)
-- stuck: 0
end MAdd
namespace MAdd
theorem okN_fit (n : Nat) : NTold.okN n = fit n := len_fit
noncomputable def sp (x y : Bool × List Int) : Prop × List D := (Wok x ∧ Wok y, wE (fit (wv x + wv y).natAbs) (wv x + wv y))
theorem spec (x y : Bool × List Int) (h : (sp x y).1) : evalFn E Tryz.f105 cod [(pG (.pair sB (sI .u64))).put x, (pG (.pair sB (sI .u64))).put y] = some (sp x y).2 := by
  obtain ⟨hx, hy⟩ := h
  refine (start x.1 x.2 y.1 y.2).trans ?_
  have l1 := hx.len
  have l2 := hy.len
  have f1 := MForm.form_ok hx
  have f2 := MForm.form_ok hy
  have b1 := hx.bl
  have b2 := hy.bl
  obtain ⟨p, a⟩ := x
  obtain ⟨q, b⟩ := y
  have n1 : M6.Nrm a := hx.1
  have n2 : M6.Nrm b := hy.1
  try dsimp only at *
  unfold sp
  try dsimp only
  rw [gP (by omega), f1, Bool.not_true, bF, gP (by omega), f2, Bool.not_true, bF, J3_eq]
  have one : ∀ (s : Bool) (m n : Nat), n ≤ m → bl m ≤ 524288 → some [D.agg [S.sc (.bool (isNeg (bif (if m < n then (3 : Int) else 0) == 0 then zs s (M6.val (M6.dg (m - n))) else 0))), S.ints .u64 (M6.dg (bif (if m < n then (3 : Int) else 0) == 0 then zs s (M6.val (M6.dg (m - n))) else 0).natAbs)], D.s (S.sc (.int .i64 (if m < n then 3 else 0)))] = some (wE (fit (zs s (m - n)).natAbs) (zs s (m - n))) := by
    intro s m n h hb
    have : fit (zs s (m - n)).natAbs = true := by
      rw [zs_abs]
      exact decide_eq_true (Nat.le_trans (bl_mono (Nat.sub_le _ _)) hb)
    rw [if_neg (by omega), this, show ((0 : Int) == 0) = true from rfl, cond_true, M6.val_dg]
    rfl
  by_cases he : p = q
  · subst he
    have hs : wv (p, a) + wv (p, b) = zs p (M6.val a + M6.val b) := by
      unfold wv zs
      cases p <;> simp <;> omega
    rw [bB_pos (by simp), gP ⟨n1, n2, l1, l2⟩, gP (nrm_bif (fun h => by rw [okN_fit] at h; exact fit_le h)), wE_told, okN_fit, hs, zs_abs]
  · rw [bB_neg (by simpa using he), gP ⟨n1.dig, n2.dig, by omega, by omega⟩]
    by_cases hc : M6.val b ≤ M6.val a
    · have hs : wv (p, a) + wv (q, b) = zs p (M6.val a - M6.val b) := by
        unfold wv zs
        cases p <;> cases q <;> simp_all <;> omega
      have l3 := len6_bl (n := M6.val a - M6.val b) (k := 8192) (Nat.le_trans (bl_mono (Nat.sub_le _ _)) b1)
      rw [bD_neg (by have := cmpN_ge.2 hc; omega), J8_eq, gP ⟨n1, n2, l1, l2⟩, gP ⟨M6.nrm_dg _, by omega⟩, hs, one _ _ _ hc b1]
    · have hs : wv (p, a) + wv (q, b) = zs q (M6.val b - M6.val a) := by
        unfold wv zs
        cases p <;> cases q <;> simp_all <;> omega
      have l3 := len6_bl (n := M6.val b - M6.val a) (k := 8192) (Nat.le_trans (bl_mono (Nat.sub_le _ _)) b2)
      rw [bD_pos (by have := (not_congr cmpN_ge).2 hc; omega), J8_eq, gP ⟨n2, n1, l2, l1⟩, gP ⟨M6.nrm_dg _, by omega⟩, hs, one _ _ _ (by omega) b2]

noncomputable def orc : Orc := orc2 (pG (.pair sB (sI .u64))) (pG (.pair sB (sI .u64))) sp
theorem fnok : FnOk Tryz.prog E 105 Tryz.f105 cod := fnOk ty_ok mixed (callsOk_of _ rfl (orcs_cons MForm.ok (orcs_cons NAdd.ok (orcs_cons NCmp.ok (orcs_cons NSub.ok (orcs_cons MTold.ok orcs_nil))))) (ext_ok)) Tryz.func105 rfl rfl rfl
theorem ok : OrcOk Tryz.prog base.glob 105 orc := fnok.ok2 rfl spec
end MAdd
end Go.Proofs.YtknafopmgaolmaaGreatDoor.W

/- math/bits.TrailingZeros64 -/
namespace Go.Proofs.YtknafopmgaolmaaGreatDoor.W
open Go Go.Proofs.YtknafopmgaolmaaGreatDoor.AI Go.Proofs.YtknafopmgaolmaaGreatDoor.M
namespace Tz64
noncomputable def E : Env := { (base) with nt := 14, own := [], keep := fun k => (tlook [] k).getD [], cut := tlook [] }
noncomputable def cod : Code := (Go.Proofs.Tryz.f203.body).getD .skip
theorem nok : namesOk E cod = true := by kernel_rfl
theorem start (a : Int) : evalFn E Go.Proofs.Tryz.f203 cod [D.s (S.sc (Value.int IntKind.u64 a))] = bcase (a == (0 : Int)) (some [D.s (S.sc (Value.int IntKind.i64 (64 : Int)))]) (if (0 : Int) ≤ IntKind.u64.wrap (bitsI BinOp.and IntKind.u64 a (IntKind.u64.wrap ((0 : Int) - a)) * (285870213051353865 : Int)) / (288230376151711744 : Int) ∧ IntKind.u64.wrap (bitsI BinOp.and IntKind.u64 a (IntKind.u64.wrap ((0 : Int) - a)) * (285870213051353865 : Int)) / (288230376151711744 : Int) < (64 : Int) then some [D.s (S.sc (Value.int IntKind.i64 (IntKind.i64.wrap ([(0 : Int), (1 : Int), (56 : Int), (2 : Int), (57 : Int), (49 : Int), (28 : Int), (3 : Int), (61 : Int), (58 : Int), (42 : Int), (50 : Int), (38 : Int), (29 : Int), (17 : Int), (4 : Int), (62 : Int), (47 : Int), (59 : Int), (36 : Int), (45 : Int), (43 : Int), (51 : Int), (22 : Int), (53 : Int), (39 : Int), (33 : Int), (30 : Int), (24 : Int), (18 : Int), (12 : Int), (5 : Int), (63 : Int), (55 : Int), (48 : Int), (27 : Int), (60 : Int), (41 : Int), (37 : Int), (16 : Int), (46 : Int), (35 : Int), (44 : Int), (21 : Int), (52 : Int), (32 : Int), (23 : Int), (11 : Int), (54 : Int), (26 : Int), (40 : Int), (15 : Int), (34 : Int), (20 : Int), (31 : Int), (10 : Int), (25 : Int), (14 : Int), (19 : Int), (9 : Int), (13 : Int), (8 : Int), (7 : Int), (6 : Int)].getD (IntKind.u64.wrap (bitsI BinOp.and IntKind.u64 a (IntKind.u64.wrap ((0 : Int) - a)) * (285870213051353865 : Int)) / (288230376151711744 : Int)).toNat (0 : Int)))))] else none) := (evalFn_J rfl nok _).trans (by kernel_rfl)
-- stuck: 0
end Tz64
namespace Tz64
def tab : List Int := [0, 1, 56, 2, 57, 49, 28, 3, 61, 58, 42, 50, 38, 29, 17, 4, 62, 47, 59, 36, 45, 43, 51, 22, 53, 39, 33, 30, 24, 18, 12, 5, 63, 55, 48, 27, 60, 41, 37, 16, 46, 35, 44, 21, 52, 32, 23, 11, 54, 26, 40, 15, 34, 20, 31, 10, 25, 14, 19, 9, 13, 8, 7, 6]
theorem tab_all : (List.range 64).all (fun k => tab.getD (((2 ^ k * 285870213051353865 % 18446744073709551616 : Nat) : Int) / 288230376151711744).toNat 0 == (k : Int)) = true := by kernel_rfl
theorem tab_at {k : Nat} (h : k < 64) : tab.getD (((2 ^ k * 285870213051353865 % 18446744073709551616 : Nat) : Int) / 288230376151711744).toNat 0 = (k : Int) := eq_of_beq (List.all_eq_true.1 tab_all k (List.mem_range.2 h))
noncomputable def sp (a : Int) : Prop × List D := (0 ≤ a ∧ a < 18446744073709551616, [.s (.sc (.int .i64 (if a = 0 then 64 else ((tz a.toNat : Nat) : Int))))])
theorem spec (a : Int) (h : (sp a).1) : evalFn E Tryz.f203 cod [(pN .u64).put a] = some (sp a).2 := by
  obtain ⟨h1, h2⟩ := h
  refine (start a).trans ?_
  show _ = some [D.s (.sc (.int .i64 (if a = 0 then 64 else ((tz a.toNat : Nat) : Int))))]
  by_cases hz : a = 0
  · rw [bE_pos hz, if_pos hz]
  · have hlt : tz a.toNat < 64 := by
      have := tz_lt (n := a.toNat) (by omega)
      rcases Nat.lt_or_ge (tz a.toNat) 64 with h | h
      · exact h
      · have h3 : 2 ^ 64 ≤ 2 ^ tz a.toNat := Nat.pow_le_pow_right (by omega) h
        omega
    have ew : IntKind.u64.wrap (0 - a) = 18446744073709551616 - a := by rw [wrap_u64_eq]; omega
    have el : bitsI .and .u64 a (IntKind.u64.wrap (0 - a)) = ((2 ^ tz a.toNat : Nat) : Int) := by
      rw [ew, and64 h1 h2 (by omega) (by omega), land_neg 64 a.toNat (18446744073709551616 - a).toNat (by omega) (by omega) (by omega)]
    have em : IntKind.u64.wrap (((2 ^ tz a.toNat : Nat) : Int) * 285870213051353865) = ((2 ^ tz a.toNat * 285870213051353865 % 18446744073709551616 : Nat) : Int) := by
      rw [wrap_u64_eq]
      generalize 2 ^ tz a.toNat = p
      omega
    have ht := tab_at hlt
    have hm : 2 ^ tz a.toNat * 285870213051353865 % 18446744073709551616 < 18446744073709551616 := Nat.mod_lt _ (by omega)
    rw [bE_neg hz, if_neg hz, el, em]
    generalize 2 ^ tz a.toNat * 285870213051353865 % 18446744073709551616 = q at *
    rw [if_pos ⟨by omega, by omega⟩]
    have e3 : ([0, 1, 56, 2, 57, 49, 28, 3, 61, 58, 42, 50, 38, 29, 17, 4, 62, 47, 59, 36, 45, 43, 51, 22, 53, 39, 33, 30, 24, 18, 12, 5, 63, 55, 48, 27, 60, 41, 37, 16, 46, 35, 44, 21, 52, 32, 23, 11, 54, 26, 40, 15, 34, 20, 31, 10, 25, 14, 19, 9, 13, 8, 7, 6] : List Int) = tab := rfl
    rw [e3, ht, wrap_i64 (by omega) (by omega)]

noncomputable def orc : Orc := orc1 (pN .u64) sp
theorem fnok : FnOk Tryz.prog E 203 Tryz.f203 cod := fnOk ty_ok mixed (callsOk_of _ rfl orcs_nil (ext_ok)) Tryz.func203 rfl rfl rfl
theorem ok : OrcOk Tryz.prog base.glob 203 orc := fnok.ok1 rfl spec
end Tz64
end Go.Proofs.YtknafopmgaolmaaGreatDoor.W

/- gnomon/nat.Trail -/
namespace Go.Proofs.YtknafopmgaolmaaGreatDoor.W
open Go Go.Proofs.YtknafopmgaolmaaGreatDoor.AI Go.Proofs.YtknafopmgaolmaaGreatDoor.M
namespace NTrail
noncomputable def E : Env := { ({ base with C := callsOf [(203, Tz64.orc)] }) with nt := 23, own := [], keep := fun k => (tlook [(2, [0, 5, 6])] k).getD [], cut := tlook [] }
noncomputable def cod : Code := (Go.Proofs.Tryz.f151.body).getD .skip
theorem nok : namesOk E cod = true := by kernel_rfl
noncomputable def L2 (xs0 : List Int) (x1 : Int) (x2 : Int) : Option (List D) := lpO E Go.Proofs.Tryz.f151 cod 2 [(A.v (V.one (L.s (S.ints IntKind.u64 xs0))), none), (A.v (V.one (L.s (S.sc (Value.int IntKind.i64 x1)))), none), (A.v (V.one (L.s (S.sc (Value.int IntKind.i64 x2)))), none)]
theorem start (a : List Int) : evalFn E Go.Proofs.Tryz.f151 cod [D.s (S.ints IntKind.u64 a)] = NTrail.L2 a (↑a.length : Int) (0 : Int) := (evalFn_J rfl nok _).trans (by kernel_rfl)
theorem L2_eq (xs0 : List Int) (x1 : Int) (x2 : Int) : L2 xs0 x1 x2 = bcase (decide (x2 < x1)) (if (0 : Int) ≤ x2 ∧ x2 < (↑xs0.length : Int) then bcase (xs0.getD x2.toNat (0 : Int) != (0 : Int)) (if (0 : Int) ≤ x2 ∧ x2 < (↑xs0.length : Int) then gif ((0 : Int) ≤ xs0.getD x2.toNat (0 : Int) ∧ xs0.getD x2.toNat (0 : Int) < (18446744073709551616 : Int)) (some [D.s (S.sc (Value.int IntKind.i64 (IntKind.i64.wrap (IntKind.i64.wrap ((64 : Int) * x2) + if xs0.getD x2.toNat (0 : Int) = (0 : Int) then (64 : Int) else (↑(tz (xs0.getD x2.toNat (0 : Int)).toNat) : Int)))))]) else none) (NTrail.L2 xs0 x1 (IntKind.i64.wrap (x2 + (1 : Int)))) else none) (some [D.s (S.sc (Value.int IntKind.i64 (0 : Int)))]) := (loopAt_J rfl nok 2 _).trans (by kernel_rfl)
-- stuck: 0
end NTrail
namespace NTrail
noncomputable def sp (a : List Int) : Prop × List D := (M6.Dig a ∧ a.length ≤ 1099511627776, [.s (.sc (.int .i64 (tz (M6.val a) : Nat)))])
theorem L {a : List Int} (ha : M6.Dig a) (hl : a.length ≤ 1099511627776) : ∀ (d i : Nat), i + d = a.length → L2 a a.length i = some [D.s (.sc (.int .i64 (if M6.val (a.drop i) = 0 then 0 else (((64 * i + tz (M6.val (a.drop i)) : Nat)) : Int))))] := by
  intro d
  induction d with
  | zero =>
    intro i hi
    rw [L2_eq, bD_neg (by omega), List.drop_eq_nil_of_le (by omega)]
    rfl
  | succ d ih =>
    intro i hi
    have g := ha.get i
    have hv := M6.val_drop_one (a := a) i
    have hih := ih (i + 1) (by omega)
    rw [L2_eq, bD_pos (by omega), if_pos (by omega), Int.toNat_natCast, if_pos (by omega), gP g, wrap_i64 (n := (i : Int) + 1) (by omega) (by omega), wrap_i64 (n := 64 * (i : Int)) (by omega) (by omega), show (i : Int) + 1 = ((i + 1 : Nat) : Int) from by omega, hih]
    generalize a.getD i 0 = x at *
    rw [hv]
    by_cases hz : x = 0
    · subst hz
      rw [bN_neg rfl]
      simp only [Int.toNat_zero, Nat.zero_add]
      by_cases hz2 : M6.val (a.drop (i + 1)) = 0
      · rw [if_pos hz2, if_pos (by omega)]
      · have := tz_mul hz2 64
        rw [show (2 : Nat) ^ 64 = 18446744073709551616 from rfl] at this
        rw [if_neg hz2, if_neg (by omega), this]
        congr 5
        omega
    · have ht := tz_lt (n := x.toNat) (by omega)
      have ht2 : tz x.toNat < 64 := by
        rcases Nat.lt_or_ge (tz x.toNat) 64 with h | h
        · exact h
        · have h3 : 2 ^ 64 ≤ 2 ^ tz x.toNat := Nat.pow_le_pow_right (by omega) h
          omega
      have := tz_add (r := x.toNat) (k := 64) (n := M6.val (a.drop (i + 1))) (by omega) (by omega)
      rw [show (2 : Nat) ^ 64 = 18446744073709551616 from rfl] at this
      rw [bN_pos hz, if_neg hz, if_neg (by omega), this, wrap_i64 (by omega) (by omega)]
      congr 5
theorem spec (a : List Int) (h : (sp a).1) : evalFn E Tryz.f151 cod [(pI .u64).put a] = some (sp a).2 := by
  obtain ⟨ha, hl⟩ := h
  refine (start a).trans ?_
  have := L ha hl a.length 0 (by omega)
  rw [show (0 : Int) = ((0 : Nat) : Int) from rfl, this, List.drop_zero]
  show _ = some [D.s (.sc (.int .i64 (tz (M6.val a) : Nat)))]
  by_cases hz : M6.val a = 0
  · rw [if_pos hz, hz]; simp [tz]
  · rw [if_neg hz]
    congr 5
    omega

noncomputable def orc : Orc := orc1 (pI .u64) sp
theorem fnok : FnOk Tryz.prog E 151 Tryz.f151 cod := fnOk ty_ok mixed (callsOk_of _ rfl (orcs_cons Tz64.ok orcs_nil) (ext_ok)) Tryz.func151 rfl rfl rfl
theorem ok : OrcOk Tryz.prog base.glob 151 orc := fnok.ok1 rfl spec
end NTrail
end Go.Proofs.YtknafopmgaolmaaGreatDoor.W

/- gnomon/nat.Shr -/
namespace Go.Proofs.YtknafopmgaolmaaGreatDoor.W
open Go Go.Proofs.YtknafopmgaolmaaGreatDoor.AI Go.Proofs.YtknafopmgaolmaaGreatDoor.M
namespace NShr
noncomputable def E : Env := { ({ base with C := callsOf [(202, NForm.orc), (204, NTold.orc)] }) with nt := 73, own := [70], keep := fun k => (tlook [(10, [0, 6, 7, 8, 29, 30])] k).getD [], cut := tlook [] }
noncomputable def cod : Code := (Go.Proofs.Tryz.f152.body).getD .skip
theorem nok : namesOk E cod = true := by kernel_rfl
noncomputable def L10 (xs0 : List Int) (x1 : Int) (x2 : Int) (m3 : Nat) (xs4 : List Int) (x5 : Int) (x6 : Int) : Option (List D) := lpO E Go.Proofs.Tryz.f152 cod 10 [(A.v (V.one (L.s (S.ints IntKind.u64 xs0))), none), (A.v (V.one (L.s (S.sc (Value.int IntKind.i64 x1)))), none), (A.v (V.one (L.s (S.sc (Value.int IntKind.i64 x2)))), none), (A.v (V.one (L.buf (3 : Nat) m3)), some { e := (23 : Nat), cont := Cont.ints IntKind.u64 xs4 }), (A.v (V.one (L.s (S.sc (Value.int IntKind.i64 x5)))), none), (A.v (V.one (L.s (S.sc (Value.int IntKind.i64 x6)))), none)]
theorem start (a : List Int) (b : Int) : evalFn E Go.Proofs.Tryz.f152 cod [D.s (S.ints IntKind.u64 a), D.s (S.sc (Value.int IntKind.i64 b))] = bcase (decide (b < (0 : Int))) (some [D.s (S.sc (Value.slice none (0 : Nat) (0 : Nat))), D.s (S.sc (Value.int IntKind.i64 (1 : Int)))]) (gif (a.length ≤ (1099511627776 : Nat)) (bcase (!NForm.formB a) (some [D.s (S.sc (Value.slice none (0 : Nat) (0 : Nat))), D.s (S.sc (Value.int IntKind.i64 (2 : Int)))]) (bcase (decide ((↑a.length : Int) ≤ IntKind.i64.wrap (b.tdiv (64 : Int)))) (some [D.s (S.sc (Value.slice none (0 : Nat) (0 : Nat))), D.s (S.sc (Value.int IntKind.i64 (0 : Int)))]) (if (0 : Int) ≤ IntKind.i64.wrap ((↑a.length : Int) - IntKind.i64.wrap (b.tdiv (64 : Int))) ∧ IntKind.i64.wrap ((↑a.length : Int) - IntKind.i64.wrap (b.tdiv (64 : Int))) ≤ IntKind.i64.wrap ((↑a.length : Int) - IntKind.i64.wrap (b.tdiv (64 : Int))) ∧ IntKind.i64.wrap ((↑a.length : Int) - IntKind.i64.wrap (b.tdiv (64 : Int))) ≤ (8796093022208 : Int) then NShr.L10 a (IntKind.i64.wrap (b.tdiv (64 : Int))) (b.tmod (64 : Int)) (IntKind.i64.wrap ((↑a.length : Int) - IntKind.i64.wrap (b.tdiv (64 : Int)))).toNat (List.replicate (IntKind.i64.wrap ((↑a.length : Int) - IntKind.i64.wrap (b.tdiv (64 : Int)))).toNat (0 : Int)) (↑(IntKind.i64.wrap ((↑a.length : Int) - IntKind.i64.wrap (b.tdiv (64 : Int)))).toNat : Int) (0 : Int) else none)))) := (evalFn_J rfl nok _).trans (by kernel_rfl)
theorem L10_eq (xs0 : List Int) (x1 : Int) (x2 : Int) (m3 : Nat) (xs4 : List Int) (x5 : Int) (x6 : Int) : L10 xs0 x1 x2 m3 xs4 x5 x6 = bcase (decide (x6 < x5)) (if (0 : Int) ≤ IntKind.i64.wrap (x1 + x6) ∧ IntKind.i64.wrap (x1 + x6) < (↑xs0.length : Int) then if x2 < (0 : Int) then none else if (0 : Int) ≤ x6 ∧ x6 < (↑m3 : Int) then bcase (decide (IntKind.i64.wrap (IntKind.i64.wrap (x1 + x6) + (1 : Int)) < (↑xs0.length : Int))) (if (0 : Int) ≤ x6 ∧ x6 < (↑m3 : Int) then if (0 : Int) ≤ IntKind.i64.wrap (IntKind.i64.wrap (x1 + x6) + (1 : Int)) ∧ IntKind.i64.wrap (IntKind.i64.wrap (x1 + x6) + (1 : Int)) < (↑xs0.length : Int) then if IntKind.i64.wrap ((63 : Int) - x2) < (0 : Int) then none else if (0 : Int) ≤ x6 ∧ x6 < (↑m3 : Int) then NShr.L10 xs0 x1 x2 m3 ((xs4.set x6.toNat (xs0.getD (IntKind.i64.wrap (x1 + x6)).toNat (0 : Int) / (↑((2 : Nat) ^ min x2.toNat (64 : Nat)) : Int))).set x6.toNat (bitsI BinOp.or IntKind.u64 ((xs4.set x6.toNat (xs0.getD (IntKind.i64.wrap (x1 + x6)).toNat (0 : Int) / (↑((2 : Nat) ^ min x2.toNat (64 : Nat)) : Int))).getD x6.toNat (0 : Int)) (IntKind.u64.wrap (IntKind.u64.wrap (xs0.getD (IntKind.i64.wrap (IntKind.i64.wrap (x1 + x6) + (1 : Int))).toNat (0 : Int) * (2 : Int)) * (↑((2 : Nat) ^ min (IntKind.i64.wrap ((63 : Int) - x2)).toNat (64 : Nat)) : Int))))) x5 (IntKind.i64.wrap (x6 + (1 : Int))) else none else none else none) (NShr.L10 xs0 x1 x2 m3 (xs4.set x6.toNat (xs0.getD (IntKind.i64.wrap (x1 + x6)).toNat (0 : Int) / (↑((2 : Nat) ^ min x2.toNat (64 : Nat)) : Int))) x5 (IntKind.i64.wrap (x6 + (1 : Int)))) else none else none) (gif (M6.Dig xs4 ∧ xs4.length ≤ (1099511627776 : Nat)) (some [D.s (S.ints IntKind.u64 (bif NTold.okN (M6.val xs4) then M6.dg (M6.val xs4) else [])), D.s (S.sc (Value.int IntKind.i64 (bif NTold.okN (M6.val xs4) then (0 : Int) else (5 : Int))))])) := (loopAt_J rfl nok 10 _).trans (by kernel_rfl)
-- stuck: 0
end NShr
namespace NShr
theorem getD_dropq (a : List Int) (q i : Nat) : (a.drop q).getD i 0 = a.getD (q + i) 0 := by
  simp [List.getD_eq_getElem?_getD, List.getElem?_drop]
theorem high {x k : Nat} (h : k < 64) : x * 2 ^ (64 - k) % 18446744073709551616 = 2 ^ (64 - k) * (x % 2 ^ k) := by
  rw [show (18446744073709551616 : Nat) = 2 ^ (64 - k) * 2 ^ k from by rw [← Nat.pow_add, show 64 - k + k = 64 from by omega], Nat.mul_comm x, Nat.mul_mod_mul_left]
theorem step {a P : List Int} {q k i r : Nat} (ha : M6.Dig a) (hP : P.length = i) (hk : k < 64) (hl : a.length ≤ 8192) (hr : q + i + (r + 1) = a.length) :
    L10 a q k (a.length - q) (P ++ List.replicate (r + 1) 0) ((a.length - q : Nat) : Int) i =
      L10 a q k (a.length - q) ((P ++ [(((a.getD (q + i) 0).toNat / 2 ^ k + 2 ^ (64 - k) * ((a.getD (q + i + 1) 0).toNat % 2 ^ k) : Nat) : Int)]) ++ List.replicate r 0) ((a.length - q : Nat) : Int) ((i + 1 : Nat) : Int) := by
  have g := ha.get (q + i)
  have g1 := ha.get (q + i + 1)
  have w1 : IntKind.i64.wrap ((q : Int) + i) = ((q + i : Nat) : Int) := by rw [wrap_i64 (by omega) (by omega)]; omega
  have w2 : IntKind.i64.wrap (((q + i : Nat) : Int) + 1) = ((q + i + 1 : Nat) : Int) := by rw [wrap_i64 (by omega) (by omega)]; omega
  have w3 : IntKind.i64.wrap (63 - (k : Int)) = ((63 - k : Nat) : Int) := by rw [wrap_i64 (by omega) (by omega)]; omega
  have m1 : min k 64 = k := by omega
  have m2 : min (63 - k) 64 = 63 - k := by omega
  have hx1 : (a.getD (q + i) 0) / ((2 ^ k : Nat) : Int) = (((a.getD (q + i) 0).toNat / 2 ^ k : Nat) : Int) := by
    obtain ⟨x, hx⟩ := Int.eq_ofNat_of_zero_le g.1
    rw [hx, Int.toNat_natCast, Int.natCast_ediv]
  have hlow : (a.getD (q + i) 0).toNat / 2 ^ k < 2 ^ (64 - k) := by
    apply Nat.div_lt_of_lt_mul
    rw [← Nat.pow_add, show k + (64 - k) = 64 from by omega]
    omega
  rw [L10_eq, bD_pos (by omega), w1, if_pos ⟨by omega, by omega⟩, if_neg (by omega), if_pos ⟨by omega, by omega⟩, w2, w3, wrap_i64 (n := (i : Int) + 1) (by omega) (by omega),
    Int.toNat_natCast, Int.toNat_natCast, Int.toNat_natCast, Int.toNat_natCast, Int.toNat_natCast, m1, m2, List.replicate_succ, set_at hP, getD_fill hP, hx1]
  by_cases hn : q + i + 1 < a.length
  · rw [bD_pos (by omega), if_pos ⟨by omega, by omega⟩, if_pos ⟨by omega, by omega⟩, if_neg (by omega), if_pos ⟨by omega, by omega⟩, set_at hP]
    have hw : IntKind.u64.wrap (IntKind.u64.wrap (a.getD (q + i + 1) 0 * 2) * ((2 ^ (63 - k) : Nat) : Int)) = ((2 ^ (64 - k) * ((a.getD (q + i + 1) 0).toNat % 2 ^ k) : Nat) : Int) := by
      obtain ⟨x, hx⟩ := Int.eq_ofNat_of_zero_le g1.1
      have hx2 : IntKind.u64.wrap ((x : Int) * 2) = ((x * 2 % 18446744073709551616 : Nat) : Int) := by rw [wrap_u64_eq]; omega
      have hx3 : ∀ p : Nat, IntKind.u64.wrap (((x * 2 % 18446744073709551616 : Nat) : Int) * (p : Int)) = ((x * 2 * p % 18446744073709551616 : Nat) : Int) := by
        intro p
        rw [wrap_u64_eq, ← Int.natCast_mul, show (18446744073709551616 : Int) = ((18446744073709551616 : Nat) : Int) from rfl, ← Int.natCast_emod, Nat.mul_mod, Nat.mod_mod, ← Nat.mul_mod]
      rw [hx, hx2, hx3, Int.toNat_natCast, ← high hk, show 64 - k = (63 - k) + 1 from by omega, Nat.pow_succ, Nat.mul_assoc, Nat.mul_comm 2]
    have hh : 2 ^ (64 - k) * ((a.getD (q + i + 1) 0).toNat % 2 ^ k) < 18446744073709551616 := by rw [← high hk]; exact Nat.mod_lt _ (by omega)
    have h64 : 2 ^ (64 - k) ≤ 2 ^ 64 := Nat.pow_le_pow_right (by omega) (by omega)
    have hor : bitsI .or .u64 (((a.getD (q + i) 0).toNat / 2 ^ k : Nat) : Int) ((2 ^ (64 - k) * ((a.getD (q + i + 1) 0).toNat % 2 ^ k) : Nat) : Int) = (((a.getD (q + i) 0).toNat / 2 ^ k + 2 ^ (64 - k) * ((a.getD (q + i + 1) 0).toNat % 2 ^ k) : Nat) : Int) := by
      have := or_low (n := (a.getD (q + i + 1) 0).toNat % 2 ^ k) hlow
      rw [← this]
      generalize 2 ^ (64 - k) * ((a.getD (q + i + 1) 0).toNat % 2 ^ k) = Y at *
      generalize (a.getD (q + i) 0).toNat / 2 ^ k = X at *
      generalize 2 ^ (64 - k) = p at *
      rw [or64 (by omega) (by omega) (by omega) (by omega), Int.toNat_natCast, Int.toNat_natCast]
    rw [hw, hor, List.append_assoc, List.singleton_append]
    rfl
  · rw [bD_neg (by omega), M6.getD_none (a := a) (n := q + i + 1) (by omega), show ((0 : Int).toNat % 2 ^ k) = 0 from Nat.zero_mod _, Nat.mul_zero, Nat.add_zero, List.append_assoc, List.singleton_append]
    rfl
theorem L {a : List Int} {q k : Nat} (ha : M6.Nrm a) (hl : a.length ≤ 8192) (hq : q < a.length) (hk : k < 64) : ∀ (r i : Nat) (P : List Int), q + i + r = a.length → P.length = i → M6.Dig P →
    2 ^ k * M6.val P + (a.getD q 0).toNat % 2 ^ k = M6.val ((a.drop q).take i) + 18446744073709551616 ^ i * ((a.getD (q + i) 0).toNat % 2 ^ k) →
    L10 a q k (a.length - q) (P ++ List.replicate r 0) ((a.length - q : Nat) : Int) i = some [D.s (.ints .u64 (M6.dg (M6.val (a.drop q) / 2 ^ k))), D.s (.sc (.int .i64 0))] := by
  intro r
  have hpk : 0 < 2 ^ k := Nat.pow_pos (by omega)
  induction r with
  | zero =>
    intro i P hi hP hd hv
    rw [M6.getD_none (a := a) (n := q + i) (by omega), show ((0 : Int).toNat % 2 ^ k) = 0 from Nat.zero_mod _, Nat.mul_zero, Nat.add_zero, M6.val_take_ge (by rw [List.length_drop]; omega)] at hv
    have hvv : M6.val P = M6.val (a.drop q) / 2 ^ k := by
      rw [← hv, Nat.mul_add_div hpk, Nat.div_eq_of_lt (Nat.mod_lt _ hpk), Nat.add_zero]
    have hok : NTold.okN (M6.val (a.drop q) / 2 ^ k) = true := by
      refine decide_eq_true ?_
      rw [← hvv]
      have := M6.len_val hd
      omega
    rw [List.replicate_zero, List.append_nil, L10_eq, bD_neg (by omega), gP ⟨hd, by omega⟩, hvv, hok]
    rfl
  | succ r ih =>
    intro i P hi hP hd hv
    have g := ha.dig.get (q + i)
    have hlow : (a.getD (q + i) 0).toNat / 2 ^ k < 2 ^ (64 - k) := by
      apply Nat.div_lt_of_lt_mul
      rw [← Nat.pow_add, show k + (64 - k) = 64 from by omega]
      omega
    have e64 : 2 ^ (64 - k) * 2 ^ k = 18446744073709551616 := by rw [← Nat.pow_add, show 64 - k + k = 64 from by omega]
    have hs : (a.getD (q + i) 0).toNat / 2 ^ k + 2 ^ (64 - k) * ((a.getD (q + i + 1) 0).toNat % 2 ^ k) < 18446744073709551616 := by
      have hm : (a.getD (q + i + 1) 0).toNat % 2 ^ k < 2 ^ k := Nat.mod_lt _ hpk
      have h3 : 2 ^ (64 - k) * ((a.getD (q + i + 1) 0).toNat % 2 ^ k + 1) ≤ 2 ^ (64 - k) * 2 ^ k := Nat.mul_le_mul_left _ hm
      rw [e64, Nat.mul_add] at h3
      omega
    rw [step ha.dig hP hk hl (by omega)]
    refine ih (i + 1) _ (by omega) (by simp [hP]) (M6.dig_push hd ⟨Int.natCast_nonneg _, by have := Int.ofNat_lt.2 hs; exact this⟩) ?_
    rw [M6.val_push, hP, M6.val_take_one, getD_dropq, Int.toNat_natCast, ← Nat.add_assoc q i 1, Nat.mul_add, Nat.add_right_comm, hv]
    have hx := Nat.div_add_mod (a.getD (q + i) 0).toNat (2 ^ k)
    generalize (a.getD (q + i) 0).toNat = x at *
    generalize (a.getD (q + i + 1) 0).toNat % 2 ^ k = y at *
    generalize M6.val ((a.drop q).take i) = v at *
    have e1 : 2 ^ k * (18446744073709551616 ^ i * (x / 2 ^ k + 2 ^ (64 - k) * y)) = 18446744073709551616 ^ i * (2 ^ k * (x / 2 ^ k)) + 18446744073709551616 ^ (i + 1) * y := by
      rw [Nat.pow_succ]
      generalize (18446744073709551616 ^ i) = B
      rw [Nat.mul_left_comm, Nat.mul_add, ← Nat.mul_assoc (2 ^ k) (2 ^ (64 - k)), Nat.mul_comm (2 ^ k) (2 ^ (64 - k)), e64, Nat.mul_add, Nat.mul_assoc B]
    rw [e1]
    have e2 : 18446744073709551616 ^ i * x = 18446744073709551616 ^ i * (2 ^ k * (x / 2 ^ k)) + 18446744073709551616 ^ i * (x % 2 ^ k) := by rw [← Nat.mul_add, hx]
    rw [e2]
    omega
noncomputable def sp (a : List Int) (n : Int) : Prop × List D := (M6.Nrm a ∧ a.length ≤ 8192 ∧ 0 ≤ n ∧ n < 4611686018427387904, [.s (.ints .u64 (M6.dg (M6.val a / 2 ^ n.toNat))), .s (.sc (.int .i64 0))])
theorem spec (a : List Int) (n : Int) (h : (sp a n).1) : ∃ rs, evalFn E Tryz.f152 cod [(pI .u64).put a, (pN .i64).put n] = some rs ∧ RsLe rs (sp a n).2 := by
  obtain ⟨ha, hl, h0, h1⟩ := h
  have e := start a n
  have eq : n / 64 = ((n.toNat / 64 : Nat) : Int) := by omega
  have ek : n % 64 = ((n.toNat % 64 : Nat) : Int) := by omega
  rw [bD_neg (by omega), gP (by omega), NForm.form_of ha hl, Bool.not_true, bF, tdiv64 h0, tmod64 h0, wrap_i64 (n := n / 64) (by omega) (by omega), eq, ek] at e
  unfold sp
  simp only
  rw [pow_split6, ← Nat.div_div_eq_div_mul]
  generalize hqq : n.toNat / 64 = q at *
  have hk : n.toNat % 64 < 64 := Nat.mod_lt _ (by omega)
  generalize n.toNat % 64 = k at *
  by_cases hz : a.length ≤ q
  · have hv : M6.val a / 18446744073709551616 ^ q = 0 := Nat.div_eq_of_lt (Nat.lt_of_lt_of_le (M6.val_lt ha.dig) (Nat.pow_le_pow_right (by omega) hz))
    rw [bD_pos (by omega)] at e
    rw [hv, Nat.zero_div, M6.dg_zero]
    exact ⟨_, e, .cons (RLe.nil _) (RsLe.refl _)⟩
  · have hval : M6.val a / 18446744073709551616 ^ q = M6.val (a.drop q) := by
      rw [M6.val_take_drop a (n := q) (by omega), Nat.add_mul_div_left _ _ (Nat.pow_pos (by omega)), Nat.div_eq_of_lt (M6.val_take_lt ha.dig _), Nat.zero_add]
    have w : IntKind.i64.wrap ((a.length : Int) - (q : Int)) = ((a.length - q : Nat) : Int) := by rw [wrap_i64 (by omega) (by omega)]; omega
    rw [bD_neg (by omega), w, if_pos ⟨by omega, by omega, by omega⟩, Int.toNat_natCast] at e
    have := L (q := q) (k := k) ha hl (by omega) hk (a.length - q) 0 [] (by omega) rfl M6.dig_nil (by simp [M6.val])
    rw [hval]
    exact ⟨_, e.trans this, RsLe.refl _⟩

noncomputable def orc : Orc := orc2 (pI .u64) (pN .i64) sp
theorem fnok : FnOk Tryz.prog E 152 Tryz.f152 cod := fnOk ty_ok mixed (callsOk_of _ rfl (orcs_cons NForm.ok (orcs_cons NTold.ok orcs_nil)) (ext_ok)) Tryz.func152 rfl rfl rfl
theorem ok : OrcOk Tryz.prog base.glob 152 orc := fnok.wk2 rfl spec
end NShr
end Go.Proofs.YtknafopmgaolmaaGreatDoor.W

/- gnomon/dyadic.Make -/
namespace Go.Proofs.YtknafopmgaolmaaGreatDoor.W
open Go Go.Proofs.YtknafopmgaolmaaGreatDoor.AI Go.Proofs.YtknafopmgaolmaaGreatDoor.M
namespace DMake
noncomputable def E : Env := { ({ base with C := callsOf [(150, MForm.orc), (151, NTrail.orc), (152, NShr.orc)] }) with nt := 55, own := [], keep := fun k => (tlook [] k).getD [], cut := tlook [(8, [1, 2, 4, 6])] }
noncomputable def cod : Code := (Go.Proofs.Tryz.f97.body).getD .skip
theorem nok : namesOk E cod = true := by kernel_rfl
noncomputable def J8 (x0 : Int) (b1 : Bool) (xs2 : List Int) (b3 : Bool) (x4 : Int) (x5 : Int) : Option (List D) := ctO E Go.Proofs.Tryz.f97 cod 8 [(A.v (V.one (L.s (S.sc (Value.int IntKind.i64 x0)))), none), (A.v (V.one (L.ptr (1 : Nat) (0 : Nat))), some { e := (33 : Nat), cont := Cont.cells [S.sc (Value.bool b1), S.ints IntKind.u64 xs2] }), (A.v (V.one (L.ptr (2 : Nat) (0 : Nat))), some { e := (35 : Nat), cont := Cont.cells [S.sc (Value.bool b3), S.sc (Value.slice none (0 : Nat) (0 : Nat)), S.sc (Value.int IntKind.i64 x4)] }), (A.v (V.one (L.s (S.sc (Value.int IntKind.i64 x5)))), none)]
theorem start (a1 : Bool) (a2 : List Int) (b : Int) : evalFn E Go.Proofs.Tryz.f97 cod [D.agg [S.sc (Value.bool a1), S.ints IntKind.u64 a2], D.s (S.sc (Value.int IntKind.i64 b))] = gif (a2.length ≤ (1099511627776 : Nat)) (bcase (!MForm.formI (a1, a2)) (some [D.agg [S.sc (Value.bool false), S.sc (Value.slice none (0 : Nat) (0 : Nat)), S.sc (Value.int IntKind.i64 (0 : Int))], D.s (S.sc (Value.int IntKind.i64 (2 : Int)))]) (bcase ((↑a2.length : Int) == (0 : Int)) (some [D.agg [S.sc (Value.bool false), S.sc (Value.slice none (0 : Nat) (0 : Nat)), S.sc (Value.int IntKind.i64 (0 : Int))], D.s (S.sc (Value.int IntKind.i64 (0 : Int)))]) (gif (M6.Dig a2 ∧ a2.length ≤ (1099511627776 : Nat)) (bcase (decide ((1048576 : Int) < b)) (some [D.agg [S.sc (Value.bool false), S.sc (Value.slice none (0 : Nat) (0 : Nat)), S.sc (Value.int IntKind.i64 (0 : Int))], D.s (S.sc (Value.int IntKind.i64 (5 : Int)))]) (bcase (decide (b < (-1572864 : Int))) (some [D.agg [S.sc (Value.bool false), S.sc (Value.slice none (0 : Nat) (0 : Nat)), S.sc (Value.int IntKind.i64 (0 : Int))], D.s (S.sc (Value.int IntKind.i64 (5 : Int)))]) (bcase (decide (IntKind.i64.wrap (b + (↑(tz (M6.val a2)) : Int)) < (-1048576 : Int))) (some [D.agg [S.sc (Value.bool false), S.sc (Value.slice none (0 : Nat) (0 : Nat)), S.sc (Value.int IntKind.i64 (0 : Int))], D.s (S.sc (Value.int IntKind.i64 (5 : Int)))]) (bcase (decide ((1048576 : Int) < IntKind.i64.wrap (b + (↑(tz (M6.val a2)) : Int)))) (some [D.agg [S.sc (Value.bool false), S.sc (Value.slice none (0 : Nat) (0 : Nat)), S.sc (Value.int IntKind.i64 (0 : Int))], D.s (S.sc (Value.int IntKind.i64 (5 : Int)))]) (DMake.J8 b a1 a2 false (0 : Int) (↑(tz (M6.val a2)) : Int))))))))) := (evalFn_J rfl nok _).trans (by kernel_rfl)
theorem J8_eq (x0 : Int) (b1 : Bool) (xs2 : List Int) (b3 : Bool) (x4 : Int) (x5 : Int) : J8 x0 b1 xs2 b3 x4 x5 = gif (M6.Nrm xs2 ∧ xs2.length ≤ (8192 : Nat) ∧ (0 : Int) ≤ x5 ∧ x5 < (4611686018427387904 : Int)) (some [D.agg [S.sc (Value.bool b1), S.ints IntKind.u64 (M6.dg (M6.val xs2 / (2 : Nat) ^ x5.toNat)), S.sc (Value.int IntKind.i64 (IntKind.i64.wrap (x0 + x5)))], D.s (S.sc (Value.int IntKind.i64 (0 : Int)))]) := (cutAt_J rfl nok 8 _).trans (by kernel_rfl)
-- stuck: 0
end DMake
namespace DMake
noncomputable def sp (x : Bool × List Int) (e : Int) : Prop × List D := (Wok x ∧ -9223372036854775808 ≤ e ∧ e < 9223372036854775808, dE (inD (wv x) e) (nrmD (wv x) e))
theorem nil_dE (p : Int × Int) : RsLe [D.agg [.sc (.bool false), .sc (.slice none 0 0), .sc (.int .i64 0)], .s (.sc (.int .i64 5))] (dE false p) := by
  refine .cons ?_ (RsLe.refl _)
  show RLe _ (M.dD (0, 0))
  unfold dD
  rw [show ((0, 0) : Int × Int).1.natAbs = 0 from rfl, M6.dg_zero]
  exact RLe.agg (.cons (SLe.refl _) (.cons (SLe.nil _) (CsLe.refl _)))
theorem spec (x : Bool × List Int) (e : Int) (h : (sp x e).1) : ∃ rs, evalFn E Tryz.f97 cod [(pG (.pair sB (sI .u64))).put x, (pN .i64).put e] = some rs ∧ RsLe rs (sp x e).2 := by
  obtain ⟨hw, h1, h2⟩ := h
  have s := start x.1 x.2 e
  have hl := hw.len
  have hf := MForm.form_ok hw
  have hb := hw.bl
  obtain ⟨b, a⟩ := x
  have hn : M6.Nrm a := hw.1
  try dsimp only at *
  unfold sp
  try dsimp only
  rw [gP (by omega), hf, Bool.not_true, bF] at s
  have habs := wv_abs (b, a)
  try dsimp only at habs
  by_cases hz : a.length = 0
  · have hv := (M6.len_zero hn).1 hz
    have hw0 : wv (b, a) = 0 := by omega
    rw [bE_pos (by omega)] at s
    refine ⟨_, s, ?_⟩
    rw [hw0]
    refine .cons ?_ (RsLe.refl _)
    show RLe _ (M.dD (0, 0))
    unfold dD
    rw [show ((0, 0) : Int × Int).1.natAbs = 0 from rfl, M6.dg_zero]
    exact RLe.agg (.cons (SLe.refl _) (.cons (SLe.nil _) (CsLe.refl _)))
  · have hv : M6.val a ≠ 0 := fun h => hz ((M6.len_zero hn).2 h)
    have hw0 : wv (b, a) ≠ 0 := by omega
    have ht := tz_bl hv
    have hs := tz_spec _ hv
    have hno : ∀ p : Bool, (p = (decide (-1048576 ≤ e + (tz (M6.val a) : Nat)) && decide (e + (tz (M6.val a) : Nat) ≤ 1048576))) → inD (wv (b, a)) e = p := by
      intro p hp
      unfold inD
      rw [habs, decide_eq_false hw0, Bool.false_or, hp]
    rw [bE_neg (by omega), gP ⟨hn.dig, by omega⟩] at s
    by_cases c1 : 1048576 < e
    · rw [bD_pos c1] at s
      rw [hno false (by rw [decide_eq_false (show ¬ (e + (tz (M6.val a) : Nat) ≤ 1048576) by omega), Bool.and_false])]
      exact ⟨_, s, nil_dE _⟩
    · rw [bD_neg c1] at s
      by_cases c2 : e < -1572864
      · rw [bD_pos c2] at s
        rw [hno false (by rw [decide_eq_false (show ¬ (-1048576 ≤ e + (tz (M6.val a) : Nat)) by omega), Bool.false_and])]
        exact ⟨_, s, nil_dE _⟩
      · have w : IntKind.i64.wrap (e + ((tz (M6.val a) : Nat) : Int)) = e + ((tz (M6.val a) : Nat) : Int) := wrap_i64 (by omega) (by omega)
        rw [bD_neg c2, w] at s
        by_cases c3 : e + ((tz (M6.val a) : Nat) : Int) < -1048576
        · rw [bD_pos c3] at s
          rw [hno false (by rw [decide_eq_false (show ¬ (-1048576 ≤ e + (tz (M6.val a) : Nat)) by omega), Bool.false_and])]
          exact ⟨_, s, nil_dE _⟩
        · rw [bD_neg c3] at s
          by_cases c4 : 1048576 < e + ((tz (M6.val a) : Nat) : Int)
          · rw [bD_pos c4] at s
            rw [hno false (by rw [decide_eq_false (show ¬ (e + (tz (M6.val a) : Nat) ≤ 1048576) by omega), Bool.and_false])]
            exact ⟨_, s, nil_dE _⟩
          · rw [bD_neg c4, J8_eq, gP ⟨hn, hl, by omega, by omega⟩, w, Int.toNat_natCast] at s
            rw [hno true (by rw [decide_eq_true (show (e + (tz (M6.val a) : Nat) ≤ 1048576) by omega), decide_eq_true (show (-1048576 ≤ e + (tz (M6.val a) : Nat)) by omega)]; rfl)]
            refine ⟨_, s, ?_⟩
            have : nrmD (wv (b, a)) e = (zs b (M6.val a / 2 ^ tz (M6.val a)), e + (tz (M6.val a) : Nat)) := by
              unfold nrmD
              rw [if_neg hw0, habs]
              have := zs_div (b := b) (Nat.pow_pos (n := tz (M6.val a)) (show 0 < 2 by decide)) hs.1
              rw [← this]
              rfl
            rw [this]
            have hq : M6.val a / 2 ^ tz (M6.val a) ≠ 0 := by omega
            show RsLe _ [M.dD (zs b (M6.val a / 2 ^ tz (M6.val a)), e + (tz (M6.val a) : Nat)), _]
            unfold dD
            try dsimp only
            rw [zs_neg, zs_abs, decide_eq_true hq, Bool.and_true]
            exact RsLe.refl _

noncomputable def orc : Orc := orc2 (pG (.pair sB (sI .u64))) (pN .i64) sp
theorem fnok : FnOk Tryz.prog E 97 Tryz.f97 cod := fnOk ty_ok mixed (callsOk_of _ rfl (orcs_cons MForm.ok (orcs_cons NTrail.ok (orcs_cons NShr.ok orcs_nil))) (ext_ok)) Tryz.func97 rfl rfl rfl
theorem ok : OrcOk Tryz.prog base.glob 97 orc := fnok.wk2 rfl spec
end DMake
end Go.Proofs.YtknafopmgaolmaaGreatDoor.W

/- gnomon/dyadic.Add -/
namespace Go.Proofs.YtknafopmgaolmaaGreatDoor.W
open Go Go.Proofs.YtknafopmgaolmaaGreatDoor.AI Go.Proofs.YtknafopmgaolmaaGreatDoor.M
namespace DAdd
noncomputable def E : Env := { ({ base with C := callsOf [(96, DForm.orc), (102, DNought.orc), (103, DTwin.orc), (104, MShl.orc), (105, MAdd.orc), (97, DMake.orc)] }) with nt := 79, own := [44, 67, 76], keep := fun k => (tlook [] k).getD [], cut := tlook [(7, [2, 3, 4]), (12, [4, 6, 7, 9])] }
noncomputable def cod : Code := (Go.Proofs.Tryz.f45.body).getD .skip
theorem nok : namesOk E cod = true := by kernel_rfl
noncomputable def J7 (b0 : Bool) (xs1 : List Int) (x2 : Int) (b3 : Bool) (xs4 : List Int) (x5 : Int) (b6 : Bool) (x7 : Int) : Option (List D) := ctO E Go.Proofs.Tryz.f45 cod 7 [(A.v (V.one (L.ptr (0 : Nat) (0 : Nat))), some { e := (35 : Nat), cont := Cont.cells [S.sc (Value.bool b0), S.ints IntKind.u64 xs1, S.sc (Value.int IntKind.i64 x2)] }), (A.v (V.one (L.ptr (1 : Nat) (0 : Nat))), some { e := (35 : Nat), cont := Cont.cells [S.sc (Value.bool b3), S.ints IntKind.u64 xs4, S.sc (Value.int IntKind.i64 x5)] }), (A.v (V.one (L.ptr (2 : Nat) (0 : Nat))), some { e := (35 : Nat), cont := Cont.cells [S.sc (Value.bool b6), S.sc (Value.slice none (0 : Nat) (0 : Nat)), S.sc (Value.int IntKind.i64 x7)] })]
noncomputable def J12 (b0 : Bool) (x1 : Int) (x2 : Int) (b3 : Bool) (xs4 : List Int) (b5 : Bool) (xs6 : List Int) : Option (List D) := ctO E Go.Proofs.Tryz.f45 cod 12 [(A.v (V.one (L.ptr (0 : Nat) (0 : Nat))), some { e := (35 : Nat), cont := Cont.cells [S.sc (Value.bool b0), S.sc (Value.slice none (0 : Nat) (0 : Nat)), S.sc (Value.int IntKind.i64 x1)] }), (A.v (V.one (L.s (S.sc (Value.int IntKind.i64 x2)))), none), (A.v (V.one (L.ptr (2 : Nat) (0 : Nat))), some { e := (33 : Nat), cont := Cont.cells [S.sc (Value.bool b3), S.ints IntKind.u64 xs4] }), (A.v (V.one (L.ptr (3 : Nat) (0 : Nat))), some { e := (33 : Nat), cont := Cont.cells [S.sc (Value.bool b5), S.ints IntKind.u64 xs6] })]
theorem start (a1 : Bool) (a2 : List Int) (a3 : Int) (b1 : Bool) (b2 : List Int) (b3 : Int) : evalFn E Go.Proofs.Tryz.f45 cod [D.agg [S.sc (Value.bool a1), S.ints IntKind.u64 a2, S.sc (Value.int IntKind.i64 a3)], D.agg [S.sc (Value.bool b1), S.ints IntKind.u64 b2, S.sc (Value.int IntKind.i64 b3)]] = gif (DyOk (a1, a2, a3)) (gif (DyOk (b1, b2, b3)) (gif True (bcase ((↑a2.length : Int) == (0 : Int)) (gif (b2.length ≤ (1099511627776 : Nat)) (some [D.agg [S.sc (Value.bool b1), S.ints IntKind.u64 b2, S.sc (Value.int IntKind.i64 b3)], D.s (S.sc (Value.int IntKind.i64 (0 : Int)))])) (gif True (bcase ((↑b2.length : Int) == (0 : Int)) (gif (a2.length ≤ (1099511627776 : Nat)) (some [D.agg [S.sc (Value.bool a1), S.ints IntKind.u64 a2, S.sc (Value.int IntKind.i64 a3)], D.s (S.sc (Value.int IntKind.i64 (0 : Int)))])) (DAdd.J7 a1 a2 a3 b1 b2 b3 false (0 : Int))))))) := (evalFn_J rfl nok _).trans (by kernel_rfl)
theorem J7_eq (b0 : Bool) (xs1 : List Int) (x2 : Int) (b3 : Bool) (xs4 : List Int) (x5 : Int) (b6 : Bool) (x7 : Int) : J7 b0 xs1 x2 b3 xs4 x5 b6 x7 = gif (Wok (b0, xs1) ∧ (0 : Int) ≤ IntKind.i64.wrap (x2 - if x5 < x2 then x5 else x2) ∧ IntKind.i64.wrap (x2 - if x5 < x2 then x5 else x2) < (4611686018427387904 : Int)) (gif (Wok (b3, xs4) ∧ (0 : Int) ≤ IntKind.i64.wrap (x5 - if x5 < x2 then x5 else x2) ∧ IntKind.i64.wrap (x5 - if x5 < x2 then x5 else x2) < (4611686018427387904 : Int)) (bcase ((bif fit (M6.val xs1 * (2 : Nat) ^ (IntKind.i64.wrap (x2 - if x5 < x2 then x5 else x2)).toNat) then (0 : Int) else (5 : Int)) != (0 : Int)) (some [D.agg [S.sc (Value.bool false), S.sc (Value.slice none (0 : Nat) (0 : Nat)), S.sc (Value.int IntKind.i64 (0 : Int))], D.s (S.sc (Value.int IntKind.i64 (5 : Int)))]) (bcase ((bif fit (M6.val xs4 * (2 : Nat) ^ (IntKind.i64.wrap (x5 - if x5 < x2 then x5 else x2)).toNat) then (0 : Int) else (5 : Int)) != (0 : Int)) (some [D.agg [S.sc (Value.bool false), S.sc (Value.slice none (0 : Nat) (0 : Nat)), S.sc (Value.int IntKind.i64 (0 : Int))], D.s (S.sc (Value.int IntKind.i64 (5 : Int)))]) (DAdd.J12 b6 x7 (if x5 < x2 then x5 else x2) (isNeg (bif fit (M6.val xs1 * (2 : Nat) ^ (IntKind.i64.wrap (x2 - if x5 < x2 then x5 else x2)).toNat) then wv (b0, xs1) * (↑((2 : Nat) ^ (IntKind.i64.wrap (x2 - if x5 < x2 then x5 else x2)).toNat) : Int) else (0 : Int))) (M6.dg (bif fit (M6.val xs1 * (2 : Nat) ^ (IntKind.i64.wrap (x2 - if x5 < x2 then x5 else x2)).toNat) then wv (b0, xs1) * (↑((2 : Nat) ^ (IntKind.i64.wrap (x2 - if x5 < x2 then x5 else x2)).toNat) : Int) else (0 : Int)).natAbs) (isNeg (bif fit (M6.val xs4 * (2 : Nat) ^ (IntKind.i64.wrap (x5 - if x5 < x2 then x5 else x2)).toNat) then wv (b3, xs4) * (↑((2 : Nat) ^ (IntKind.i64.wrap (x5 - if x5 < x2 then x5 else x2)).toNat) : Int) else (0 : Int))) (M6.dg (bif fit (M6.val xs4 * (2 : Nat) ^ (IntKind.i64.wrap (x5 - if x5 < x2 then x5 else x2)).toNat) then wv (b3, xs4) * (↑((2 : Nat) ^ (IntKind.i64.wrap (x5 - if x5 < x2 then x5 else x2)).toNat) : Int) else (0 : Int)).natAbs))))) := (cutAt_J rfl nok 7 _).trans (by kernel_rfl)
theorem J12_eq (b0 : Bool) (x1 : Int) (x2 : Int) (b3 : Bool) (xs4 : List Int) (b5 : Bool) (xs6 : List Int) : J12 b0 x1 x2 b3 xs4 b5 xs6 = gif (Wok (b3, xs4) ∧ Wok (b5, xs6)) (bcase ((bif fit (wv (b3, xs4) + wv (b5, xs6)).natAbs then (0 : Int) else (5 : Int)) != (0 : Int)) (some [D.agg [S.sc (Value.bool false), S.sc (Value.slice none (0 : Nat) (0 : Nat)), S.sc (Value.int IntKind.i64 (0 : Int))], D.s (S.sc (Value.int IntKind.i64 (bif fit (wv (b3, xs4) + wv (b5, xs6)).natAbs then (0 : Int) else (5 : Int))))]) (gif (Wok (isNeg (bif fit (wv (b3, xs4) + wv (b5, xs6)).natAbs then wv (b3, xs4) + wv (b5, xs6) else (0 : Int)), M6.dg (bif fit (wv (b3, xs4) + wv (b5, xs6)).natAbs then wv (b3, xs4) + wv (b5, xs6) else (0 : Int)).natAbs) ∧ (-9223372036854775808 : Int) ≤ x2 ∧ x2 < (9223372036854775808 : Int)) (some [D.agg [S.sc (Value.bool (isNeg (bif inD (wv (isNeg (bif fit (wv (b3, xs4) + wv (b5, xs6)).natAbs then wv (b3, xs4) + wv (b5, xs6) else (0 : Int)), M6.dg (bif fit (wv (b3, xs4) + wv (b5, xs6)).natAbs then wv (b3, xs4) + wv (b5, xs6) else (0 : Int)).natAbs)) x2 then nrmD (wv (isNeg (bif fit (wv (b3, xs4) + wv (b5, xs6)).natAbs then wv (b3, xs4) + wv (b5, xs6) else (0 : Int)), M6.dg (bif fit (wv (b3, xs4) + wv (b5, xs6)).natAbs then wv (b3, xs4) + wv (b5, xs6) else (0 : Int)).natAbs)) x2 else ((0 : Int), (0 : Int))).fst)), S.ints IntKind.u64 (M6.dg (bif inD (wv (isNeg (bif fit (wv (b3, xs4) + wv (b5, xs6)).natAbs then wv (b3, xs4) + wv (b5, xs6) else (0 : Int)), M6.dg (bif fit (wv (b3, xs4) + wv (b5, xs6)).natAbs then wv (b3, xs4) + wv (b5, xs6) else (0 : Int)).natAbs)) x2 then nrmD (wv (isNeg (bif fit (wv (b3, xs4) + wv (b5, xs6)).natAbs then wv (b3, xs4) + wv (b5, xs6) else (0 : Int)), M6.dg (bif fit (wv (b3, xs4) + wv (b5, xs6)).natAbs then wv (b3, xs4) + wv (b5, xs6) else (0 : Int)).natAbs)) x2 else ((0 : Int), (0 : Int))).fst.natAbs), S.sc (Value.int IntKind.i64 (bif inD (wv (isNeg (bif fit (wv (b3, xs4) + wv (b5, xs6)).natAbs then wv (b3, xs4) + wv (b5, xs6) else (0 : Int)), M6.dg (bif fit (wv (b3, xs4) + wv (b5, xs6)).natAbs then wv (b3, xs4) + wv (b5, xs6) else (0 : Int)).natAbs)) x2 then nrmD (wv (isNeg (bif fit (wv (b3, xs4) + wv (b5, xs6)).natAbs then wv (b3, xs4) + wv (b5, xs6) else (0 : Int)), M6.dg (bif fit (wv (b3, xs4) + wv (b5, xs6)).natAbs then wv (b3, xs4) + wv (b5, xs6) else (0 : Int)).natAbs)) x2 else ((0 : Int), (0 : Int))).snd)], D.s (S.sc (Value.int IntKind.i64 (bif inD (wv (isNeg (bif fit (wv (b3, xs4) + wv (b5, xs6)).natAbs then wv (b3, xs4) + wv (b5, xs6) else (0 : Int)), M6.dg (bif fit (wv (b3, xs4) + wv (b5, xs6)).natAbs then wv (b3, xs4) + wv (b5, xs6) else (0 : Int)).natAbs)) x2 then (0 : Int) else (5 : Int))))]))) := (cutAt_J rfl nok 12 _).trans (by kernel_rfl)
-- stuck: 0
end DAdd
namespace DAdd
def addE (p q : Int × Int) : Int := if q.2 < p.2 then q.2 else p.2
def addX (p q : Int × Int) : Int := p.1 * ((2 ^ (p.2 - addE p q).toNat : Nat) : Int)
def addY (p q : Int × Int) : Int := q.1 * ((2 ^ (q.2 - addE p q).toNat : Nat) : Int)
/-- p + q. -/
def addD (p q : Int × Int) : Int × Int := if p.1 = 0 then q else if q.1 = 0 then p else nrmD (addX p q + addY p q) (addE p q)
def addOk (p q : Int × Int) : Bool := decide (p.1 = 0) || (decide (q.1 = 0) || (fit (addX p q).natAbs && (fit (addY p q).natAbs && (fit (addX p q + addY p q).natAbs && inD (addX p q + addY p q) (addE p q)))))
noncomputable def sp (x y : Bool × List Int × Int) : Prop × List D := (DyOk x ∧ DyOk y, dE (addOk (dv x) (dv y)) (addD (dv x) (dv y)))
theorem spec (x y : Bool × List Int × Int) (h : (sp x y).1) : ∃ rs, evalFn E Tryz.f45 cod [(pG (.pair sB (.pair (sI .u64) (sN .i64)))).put x, (pG (.pair sB (.pair (sI .u64) (sN .i64)))).put y] = some rs ∧ RsLe rs (sp x y).2 := by
  obtain ⟨hx, hy⟩ := h
  have s := start x.1 x.2.1 x.2.2 y.1 y.2.1 y.2.2
  have dx := hx.dD
  have dy := hy.dD
  have lx := hx.len
  have ly := hy.len
  have rx := hx.2.1
  have ry := hy.2.1
  have zx := M6.len_zero hx.nrm
  have zy := M6.len_zero hy.nrm
  have wx := hx.wok
  have wy := hy.wok
  obtain ⟨b, a, e⟩ := x
  obtain ⟨c, d, f⟩ := y
  try dsimp only at *
  unfold sp
  try dsimp only
  have ax := wv_abs (b, a)
  have ay := wv_abs (c, d)
  try dsimp only at ax ay
  rw [gP hx, gP hy, gP trivial] at s
  by_cases h0 : a.length = 0
  · have hw : (dv (b, a, e)).1 = 0 := by have := zx.1 h0; show wv (b, a) = 0; omega
    rw [bE_pos (by omega), gP (by omega)] at s
    refine ⟨_, s, ?_⟩
    unfold addOk addD
    rw [decide_eq_true hw, Bool.true_or, if_pos hw]
    show RsLe _ [M.dD (dv (c, d, f)), _]
    rw [dy]
    exact RsLe.refl _
  · have hw : (dv (b, a, e)).1 ≠ 0 := by have : M6.val a ≠ 0 := fun h => h0 (zx.2 h); show wv (b, a) ≠ 0; omega
    rw [bE_neg (by omega), gP trivial] at s
    by_cases g0 : d.length = 0
    · have hv : (dv (c, d, f)).1 = 0 := by have := zy.1 g0; show wv (c, d) = 0; omega
      rw [bE_pos (by omega), gP (by omega)] at s
      refine ⟨_, s, ?_⟩
      unfold addOk addD
      rw [decide_eq_false hw, Bool.false_or, decide_eq_true hv, Bool.true_or, if_neg hw, if_pos hv]
      show RsLe _ [M.dD (dv (b, a, e)), _]
      rw [dx]
      exact RsLe.refl _
    · have hv : (dv (c, d, f)).1 ≠ 0 := by have : M6.val d ≠ 0 := fun h => g0 (zy.2 h); show wv (c, d) ≠ 0; omega
      have i1 : addE (dv (b, a, e)) (dv (c, d, f)) ≤ e ∧ addE (dv (b, a, e)) (dv (c, d, f)) ≤ f ∧ -1048576 ≤ addE (dv (b, a, e)) (dv (c, d, f)) := by
        unfold addE dv
        try dsimp only
        split <;> omega
      have u1 : IntKind.i64.wrap (e - addE (dv (b, a, e)) (dv (c, d, f))) = e - addE (dv (b, a, e)) (dv (c, d, f)) := wrap_i64 (by omega) (by omega)
      have u2 : IntKind.i64.wrap (f - addE (dv (b, a, e)) (dv (c, d, f))) = f - addE (dv (b, a, e)) (dv (c, d, f)) := wrap_i64 (by omega) (by omega)
      have e1 : (if f < e then f else e) = addE (dv (b, a, e)) (dv (c, d, f)) := rfl
      have f1 : M6.val a * 2 ^ (e - addE (dv (b, a, e)) (dv (c, d, f))).toNat = (addX (dv (b, a, e)) (dv (c, d, f))).natAbs := by
        show _ = (wv (b, a) * _).natAbs
        rw [Int.natAbs_mul, ax, Int.natAbs_natCast]
        rfl
      have f2 : M6.val d * 2 ^ (f - addE (dv (b, a, e)) (dv (c, d, f))).toNat = (addY (dv (b, a, e)) (dv (c, d, f))).natAbs := by
        show _ = (wv (c, d) * _).natAbs
        rw [Int.natAbs_mul, ay, Int.natAbs_natCast]
        rfl
      have f3 : wv (b, a) * ((2 ^ (e - addE (dv (b, a, e)) (dv (c, d, f))).toNat : Nat) : Int) = addX (dv (b, a, e)) (dv (c, d, f)) := rfl
      have f4 : wv (c, d) * ((2 ^ (f - addE (dv (b, a, e)) (dv (c, d, f))).toNat : Nat) : Int) = addY (dv (b, a, e)) (dv (c, d, f)) := rfl
      rw [bE_neg (by omega), J7_eq, e1, u1, u2] at s
      try dsimp only at s
      rw [f1, f2, f3, f4, gP ⟨wx, by omega, by omega⟩, gP ⟨wy, by omega, by omega⟩] at s
      have ao : addOk (dv (b, a, e)) (dv (c, d, f)) = (fit (addX (dv (b, a, e)) (dv (c, d, f))).natAbs && (fit (addY (dv (b, a, e)) (dv (c, d, f))).natAbs && (fit (addX (dv (b, a, e)) (dv (c, d, f)) + addY (dv (b, a, e)) (dv (c, d, f))).natAbs && inD (addX (dv (b, a, e)) (dv (c, d, f)) + addY (dv (b, a, e)) (dv (c, d, f))) (addE (dv (b, a, e)) (dv (c, d, f)))))) := by
        unfold addOk
        rw [decide_eq_false hw, Bool.false_or, decide_eq_false hv, Bool.false_or]
      have ad : addD (dv (b, a, e)) (dv (c, d, f)) = nrmD (addX (dv (b, a, e)) (dv (c, d, f)) + addY (dv (b, a, e)) (dv (c, d, f))) (addE (dv (b, a, e)) (dv (c, d, f))) := by
        unfold addD
        rw [if_neg hw, if_neg hv]
      rw [ao, ad]
      generalize addX (dv (b, a, e)) (dv (c, d, f)) = X at *
      generalize addY (dv (b, a, e)) (dv (c, d, f)) = Y at *
      generalize addE (dv (b, a, e)) (dv (c, d, f)) = k at *
      cases c1 : fit X.natAbs with
      | false =>
        rw [c1, cond_false, bN_pos (by omega)] at s
        rw [Bool.false_and]
        exact ⟨_, s, DMake.nil_dE _⟩
      | true =>
        rw [c1, cond_true, bN_neg rfl] at s
        cases c2 : fit Y.natAbs with
        | false =>
          rw [c2, cond_false, bN_pos (by omega)] at s
          rw [Bool.false_and, Bool.and_false]
          exact ⟨_, s, DMake.nil_dE _⟩
        | true =>
          rw [c2, cond_true, bN_neg rfl, J12_eq, gP ⟨wok_wD (fit_le c1), wok_wD (fit_le c2)⟩] at s
          try dsimp only [cond_true] at s
          rw [wv_wD, wv_wD] at s
          cases c3 : fit (X + Y).natAbs with
          | false =>
            rw [c3] at s
            try dsimp only [cond_false] at s
            rw [bN_pos (by omega)] at s
            rw [Bool.false_and, Bool.and_false, Bool.and_false]
            exact ⟨_, s, DMake.nil_dE _⟩
          | true =>
            rw [c3] at s
            try dsimp only [cond_true] at s
            rw [bN_neg rfl, gP ⟨wok_wD (fit_le c3), by omega, by omega⟩, wv_wD] at s
            rw [Bool.true_and, Bool.true_and, Bool.true_and]
            exact ⟨_, s, RsLe.refl _⟩

noncomputable def orc : Orc := orc2 (pG (.pair sB (.pair (sI .u64) (sN .i64)))) (pG (.pair sB (.pair (sI .u64) (sN .i64)))) sp
theorem fnok : FnOk Tryz.prog E 45 Tryz.f45 cod := fnOk ty_ok mixed (callsOk_of _ rfl (orcs_cons DForm.ok (orcs_cons DNought.ok (orcs_cons DTwin.ok (orcs_cons MShl.ok (orcs_cons MAdd.ok (orcs_cons DMake.ok orcs_nil)))))) (ext_ok)) Tryz.func45 rfl rfl rfl
theorem ok : OrcOk Tryz.prog base.glob 45 orc := fnok.wk2 rfl spec
end DAdd
end Go.Proofs.YtknafopmgaolmaaGreatDoor.W

/- gnomon/dyadic.Scale -/
namespace Go.Proofs.YtknafopmgaolmaaGreatDoor.W
open Go Go.Proofs.YtknafopmgaolmaaGreatDoor.AI Go.Proofs.YtknafopmgaolmaaGreatDoor.M
namespace DScale
noncomputable def E : Env := { ({ base with C := callsOf [(96, DForm.orc), (102, DNought.orc), (103, DTwin.orc)] }) with nt := 45, own := [], keep := fun k => (tlook [] k).getD [], cut := tlook [(7, [1, 2, 4])] }
noncomputable def cod : Code := (Go.Proofs.Tryz.f86.body).getD .skip
theorem nok : namesOk E cod = true := by kernel_rfl
noncomputable def J7 (x0 : Int) (b1 : Bool) (xs2 : List Int) (x3 : Int) (b4 : Bool) (x5 : Int) : Option (List D) := ctO E Go.Proofs.Tryz.f86 cod 7 [(A.v (V.one (L.s (S.sc (Value.int IntKind.i64 x0)))), none), (A.v (V.one (L.ptr (1 : Nat) (0 : Nat))), some { e := (35 : Nat), cont := Cont.cells [S.sc (Value.bool b1), S.ints IntKind.u64 xs2, S.sc (Value.int IntKind.i64 x3)] }), (A.v (V.one (L.ptr (2 : Nat) (0 : Nat))), some { e := (35 : Nat), cont := Cont.cells [S.sc (Value.bool b4), S.sc (Value.slice none (0 : Nat) (0 : Nat)), S.sc (Value.int IntKind.i64 x5)] })]
theorem start (a1 : Bool) (a2 : List Int) (a3 : Int) (b : Int) : evalFn E Go.Proofs.Tryz.f86 cod [D.agg [S.sc (Value.bool a1), S.ints IntKind.u64 a2, S.sc (Value.int IntKind.i64 a3)], D.s (S.sc (Value.int IntKind.i64 b))] = gif (DyOk (a1, a2, a3)) (gif True (bcase ((↑a2.length : Int) == (0 : Int)) (some [D.agg [S.sc (Value.bool false), S.sc (Value.slice none (0 : Nat) (0 : Nat)), S.sc (Value.int IntKind.i64 (0 : Int))], D.s (S.sc (Value.int IntKind.i64 (0 : Int)))]) (bcase (decide ((2097152 : Int) < b)) (some [D.agg [S.sc (Value.bool false), S.sc (Value.slice none (0 : Nat) (0 : Nat)), S.sc (Value.int IntKind.i64 (0 : Int))], D.s (S.sc (Value.int IntKind.i64 (5 : Int)))]) (bcase (decide (b < (-2097152 : Int))) (some [D.agg [S.sc (Value.bool false), S.sc (Value.slice none (0 : Nat) (0 : Nat)), S.sc (Value.int IntKind.i64 (0 : Int))], D.s (S.sc (Value.int IntKind.i64 (5 : Int)))]) (bcase (decide ((1048576 : Int) < IntKind.i64.wrap (a3 + b))) (some [D.agg [S.sc (Value.bool false), S.sc (Value.slice none (0 : Nat) (0 : Nat)), S.sc (Value.int IntKind.i64 (0 : Int))], D.s (S.sc (Value.int IntKind.i64 (5 : Int)))]) (bcase (decide (IntKind.i64.wrap (a3 + b) < (-1048576 : Int))) (some [D.agg [S.sc (Value.bool false), S.sc (Value.slice none (0 : Nat) (0 : Nat)), S.sc (Value.int IntKind.i64 (0 : Int))], D.s (S.sc (Value.int IntKind.i64 (5 : Int)))]) (DScale.J7 b a1 a2 a3 false (0 : Int)))))))) := (evalFn_J rfl nok _).trans (by kernel_rfl)
theorem J7_eq (x0 : Int) (b1 : Bool) (xs2 : List Int) (x3 : Int) (b4 : Bool) (x5 : Int) : J7 x0 b1 xs2 x3 b4 x5 = gif (xs2.length ≤ (1099511627776 : Nat)) (some [D.agg [S.sc (Value.bool b1), S.ints IntKind.u64 xs2, S.sc (Value.int IntKind.i64 (IntKind.i64.wrap (x3 + x0)))], D.s (S.sc (Value.int IntKind.i64 (0 : Int)))]) := (cutAt_J rfl nok 7 _).trans (by kernel_rfl)
-- stuck: 0
end DScale
namespace DScale
/-- p * 2^n. -/
def scD (p : Int × Int) (n : Int) : Int × Int := if p.1 = 0 then (0, 0) else (p.1, p.2 + n)
def scOk (p : Int × Int) (n : Int) : Bool := decide (p.1 = 0) || (decide (-1048576 ≤ p.2 + n) && decide (p.2 + n ≤ 1048576))
noncomputable def sp (x : Bool × List Int × Int) (n : Int) : Prop × List D := (DyOk x ∧ -9223372036854775808 ≤ n ∧ n < 9223372036854775808, dE (scOk (dv x) n) (scD (dv x) n))
theorem spec (x : Bool × List Int × Int) (n : Int) (h : (sp x n).1) : ∃ rs, evalFn E Tryz.f86 cod [(pG (.pair sB (.pair (sI .u64) (sN .i64)))).put x, (pN .i64).put n] = some rs ∧ RsLe rs (sp x n).2 := by
  obtain ⟨h, h1, h2⟩ := h
  have hl := h.len
  have hd := h.dD
  have hr := h.2.1
  have s := start x.1 x.2.1 x.2.2 n
  obtain ⟨b, a, e⟩ := x
  try dsimp only at *
  unfold sp
  try dsimp only
  have hz := M6.len_zero h.nrm
  have ha := wv_abs (b, a)
  try dsimp only at ha hz
  rw [gP h, gP trivial] at s
  by_cases h0 : a.length = 0
  · have hw : (dv (b, a, e)).1 = 0 := by have := hz.1 h0; show wv (b, a) = 0; omega
    rw [bE_pos (by omega)] at s
    refine ⟨_, s, ?_⟩
    unfold scOk scD
    rw [decide_eq_true hw, Bool.true_or, if_pos hw]
    refine .cons ?_ (RsLe.refl _)
    show RLe _ (M.dD (0, 0))
    unfold M.dD
    rw [show ((0, 0) : Int × Int).1.natAbs = 0 from rfl, M6.dg_zero]
    exact RLe.agg (.cons (SLe.refl _) (.cons (SLe.nil _) (CsLe.refl _)))
  · have hw : (dv (b, a, e)).1 ≠ 0 := by have : M6.val a ≠ 0 := fun h => h0 (hz.2 h); show wv (b, a) ≠ 0; omega
    have hno : ∀ p : Bool, (p = (decide (-1048576 ≤ e + n) && decide (e + n ≤ 1048576))) → scOk (dv (b, a, e)) n = p := by
      intro p hp
      unfold scOk
      rw [decide_eq_false hw, Bool.false_or, hp]
      rfl
    rw [bE_neg (by omega)] at s
    by_cases c1 : 2097152 < n
    · rw [bD_pos c1] at s
      rw [hno false (by rw [decide_eq_false (show ¬ (e + n ≤ 1048576) by omega), Bool.and_false])]
      exact ⟨_, s, DMake.nil_dE _⟩
    · rw [bD_neg c1] at s
      by_cases c2 : n < -2097152
      · rw [bD_pos c2] at s
        rw [hno false (by rw [decide_eq_false (show ¬ (-1048576 ≤ e + n) by omega), Bool.false_and])]
        exact ⟨_, s, DMake.nil_dE _⟩
      · have w : IntKind.i64.wrap (e + n) = e + n := wrap_i64 (by omega) (by omega)
        rw [bD_neg c2, w] at s
        by_cases c3 : 1048576 < e + n
        · rw [bD_pos c3] at s
          rw [hno false (by rw [decide_eq_false (show ¬ (e + n ≤ 1048576) by omega), Bool.and_false])]
          exact ⟨_, s, DMake.nil_dE _⟩
        · rw [bD_neg c3] at s
          by_cases c4 : e + n < -1048576
          · rw [bD_pos c4] at s
            rw [hno false (by rw [decide_eq_false (show ¬ (-1048576 ≤ e + n) by omega), Bool.false_and])]
            exact ⟨_, s, DMake.nil_dE _⟩
          · rw [bD_neg c4, J7_eq] at s
            try dsimp only at s
            rw [gP (by omega), w] at s
            rw [hno true (by rw [decide_eq_true (show (e + n ≤ 1048576) by omega), decide_eq_true (show (-1048576 ≤ e + n) by omega)]; rfl)]
            refine ⟨_, s, ?_⟩
            unfold scD
            rw [if_neg hw]
            have hc := h.wok.cells
            show RsLe _ [M.dD (wv (b, a), e + n), _]
            unfold M.dD
            try dsimp only
            rw [hc.1, hc.2]
            exact RsLe.refl _

noncomputable def orc : Orc := orc2 (pG (.pair sB (.pair (sI .u64) (sN .i64)))) (pN .i64) sp
theorem fnok : FnOk Tryz.prog E 86 Tryz.f86 cod := fnOk ty_ok mixed (callsOk_of _ rfl (orcs_cons DForm.ok (orcs_cons DNought.ok (orcs_cons DTwin.ok orcs_nil))) (ext_ok)) Tryz.func86 rfl rfl rfl
theorem ok : OrcOk Tryz.prog base.glob 86 orc := fnok.wk2 rfl spec
end DScale
end Go.Proofs.YtknafopmgaolmaaGreatDoor.W

/- gnomon/nat.Bit -/
namespace Go.Proofs.YtknafopmgaolmaaGreatDoor.W
open Go Go.Proofs.YtknafopmgaolmaaGreatDoor.AI Go.Proofs.YtknafopmgaolmaaGreatDoor.M
namespace NBit
noncomputable def E : Env := { (base) with nt := 24, own := [], keep := fun k => (tlook [] k).getD [], cut := tlook [(3, [0, 1])] }
noncomputable def cod : Code := (Go.Proofs.Tryz.f239.body).getD .skip
theorem nok : namesOk E cod = true := by kernel_rfl
noncomputable def J3 (xs0 : List Int) (x1 : Int) : Option (List D) := ctO E Go.Proofs.Tryz.f239 cod 3 [(A.v (V.one (L.s (S.ints IntKind.u64 xs0))), none), (A.v (V.one (L.s (S.sc (Value.int IntKind.i64 x1)))), none)]
theorem start (a : List Int) (b : Int) : evalFn E Go.Proofs.Tryz.f239 cod [D.s (S.ints IntKind.u64 a), D.s (S.sc (Value.int IntKind.i64 b))] = bcase (decide (b < (0 : Int))) (some [D.s (S.sc (Value.bool false))]) (bcase (decide ((↑a.length : Int) ≤ IntKind.i64.wrap (b.tdiv (64 : Int)))) (some [D.s (S.sc (Value.bool false))]) (NBit.J3 a b)) := (evalFn_J rfl nok _).trans (by kernel_rfl)
theorem J3_eq (xs0 : List Int) (x1 : Int) : J3 xs0 x1 = if (0 : Int) ≤ IntKind.i64.wrap (x1.tdiv (64 : Int)) ∧ IntKind.i64.wrap (x1.tdiv (64 : Int)) < (↑xs0.length : Int) then if x1.tmod (64 : Int) < (0 : Int) then none else some [D.s (S.sc (Value.bool (bitsI BinOp.and IntKind.u64 (xs0.getD (IntKind.i64.wrap (x1.tdiv (64 : Int))).toNat (0 : Int) / (↑((2 : Nat) ^ min (x1.tmod (64 : Int)).toNat (64 : Nat)) : Int)) (1 : Int) == (1 : Int))))] else none := (cutAt_J rfl nok 3 _).trans (by kernel_rfl)
-- stuck: 0
end NBit
namespace NBit
noncomputable def sp (a : List Int) (i : Int) : Prop × List D := (M6.Dig a ∧ a.length ≤ 1099511627776 ∧ -9223372036854775808 ≤ i ∧ i < 9223372036854775808, [.s (.sc (.bool (decide (0 ≤ i) && decide (M6.val a / 2 ^ i.toNat % 2 = 1))))])
theorem and_one {x : Int} (h : 0 ≤ x) (h' : x < 18446744073709551616) : bitsI .and .u64 x 1 = x % 2 := by
  rw [and64 h h' (by omega) (by omega)]
  have : x.toNat &&& 1 = x.toNat % 2 := Nat.and_one_is_mod _
  show ((x.toNat &&& 1 : Nat) : Int) = _
  rw [this]
  omega
theorem spec (a : List Int) (i : Int) (h : (sp a i).1) : evalFn E Tryz.f239 cod [(pI .u64).put a, (pN .i64).put i] = some (sp a i).2 := by
  obtain ⟨ha, hl, h1, h2⟩ := h
  refine (start a i).trans ?_
  show _ = some [D.s (.sc (.bool (decide (0 ≤ i) && decide (M6.val a / 2 ^ i.toNat % 2 = 1))))]
  by_cases hn : i < 0
  · rw [bD_pos hn, decide_eq_false (show ¬ 0 ≤ i by omega), Bool.false_and]
  · have t1 : i.tdiv 64 = i / 64 := Int.tdiv_eq_ediv_of_nonneg (by omega)
    have t2 : i.tmod 64 = i % 64 := Int.tmod_eq_emod_of_nonneg (by omega)
    have e1 : (i / 64).toNat = i.toNat / 64 := by omega
    have e2 : (i % 64).toNat = i.toNat % 64 := by omega
    have ps : 2 ^ i.toNat = 18446744073709551616 ^ (i.toNat / 64) * 2 ^ (i.toNat % 64) := by
      rw [show (18446744073709551616 : Nat) = 2 ^ 64 from rfl, ← Nat.pow_mul, ← Nat.pow_add]; congr 1; omega
    rw [bD_neg hn, decide_eq_true (show 0 ≤ i by omega), Bool.true_and, t1, wrap_i64 (n := i / 64) (by omega) (by omega), ps, ← Nat.div_div_eq_div_mul]
    by_cases hz : (a.length : Int) ≤ i / 64
    · have hv : M6.val a / 18446744073709551616 ^ (i.toNat / 64) = 0 := by
        apply Nat.div_eq_of_lt
        exact Nat.lt_of_lt_of_le (M6.val_lt ha) (Nat.pow_le_pow_right (by omega) (by omega))
      rw [bD_pos hz, hv, Nat.zero_div]
      rfl
    · have g := ha.get (i.toNat / 64)
      have hv := M6.val_take_drop a (n := i.toNat / 64) (by omega)
      have hq : M6.val a / 18446744073709551616 ^ (i.toNat / 64) = M6.val (a.drop (i.toNat / 64)) := by
        rw [hv, Nat.add_mul_div_left _ _ (Nat.pow_pos (by omega)), Nat.div_eq_of_lt (M6.val_take_lt ha _), Nat.zero_add]
      rw [bD_neg hz, J3_eq, t1, t2, wrap_i64 (n := i / 64) (by omega) (by omega), if_pos (by omega), if_neg (by omega), e1, e2, hq, M6.val_drop_one]
      have em : min (i.toNat % 64) 64 = i.toNat % 64 := by omega
      have hlt : i.toNat % 64 < 64 := Nat.mod_lt _ (by omega)
      rw [em]
      generalize i.toNat % 64 = k at *
      generalize a.getD (i.toNat / 64) 0 = x at *
      generalize M6.val (a.drop (i.toNat / 64 + 1)) = r at *
      have hp : 0 < 2 ^ k := Nat.pow_pos (by omega)
      have e3 : (x.toNat + 18446744073709551616 * r) / 2 ^ k % 2 = x.toNat / 2 ^ k % 2 := by
        have : 18446744073709551616 * r = 2 ^ k * (2 * (2 ^ (63 - k) * r)) := by
          rw [show (18446744073709551616 : Nat) = 2 ^ 64 from rfl, show 64 = k + (1 + (63 - k)) from by omega, Nat.pow_add, Nat.pow_add, Nat.mul_assoc, Nat.mul_assoc]
        rw [this, Nat.add_mul_div_left _ _ hp]
        omega
      rw [e3]
      have ex : x / ((2 ^ k : Nat) : Int) = ((x.toNat / 2 ^ k : Nat) : Int) := by
        obtain ⟨n, rfl⟩ := Int.eq_ofNat_of_zero_le g.1
        rw [← Int.natCast_ediv]; rfl
      have hle : x.toNat / 2 ^ k ≤ x.toNat := Nat.div_le_self _ _
      rw [ex]
      clear ex e3 hq hv ps
      generalize x.toNat / 2 ^ k = q at *
      rw [and_one (by omega) (by omega)]
      congr 4
      by_cases h : q % 2 = 1
      · rw [decide_eq_true h]
        have : ((q : Int) % 2) = 1 := by omega
        rw [this]; rfl
      · rw [decide_eq_false h]
        have : ((q : Int) % 2) = 0 := by omega
        rw [this]; rfl

noncomputable def orc : Orc := orc2 (pI .u64) (pN .i64) sp
theorem fnok : FnOk Tryz.prog E 239 Tryz.f239 cod := fnOk ty_ok mixed (callsOk_of _ rfl orcs_nil (ext_ok)) Tryz.func239 rfl rfl rfl
theorem ok : OrcOk Tryz.prog base.glob 239 orc := fnok.ok2 rfl spec
end NBit
end Go.Proofs.YtknafopmgaolmaaGreatDoor.W

/- (gnomon/num.way).more -/
namespace Go.Proofs.YtknafopmgaolmaaGreatDoor.W
open Go Go.Proofs.YtknafopmgaolmaaGreatDoor.AI Go.Proofs.YtknafopmgaolmaaGreatDoor.M
namespace MMore
noncomputable def E : Env := { (base) with nt := 34, own := [], keep := fun k => (tlook [] k).getD [], cut := tlook [] }
noncomputable def cod : Code := (Go.Proofs.Tryz.f270.body).getD .skip
theorem nok : namesOk E cod = true := by kernel_rfl
theorem start (a : Int) (b : Bool) (c : Bool) (d : Bool) (e : Int) : evalFn E Go.Proofs.Tryz.f270 cod [D.s (S.sc (Value.int IntKind.i64 a)), D.s (S.sc (Value.bool b)), D.s (S.sc (Value.bool c)), D.s (S.sc (Value.bool d)), D.s (S.sc (Value.int IntKind.i64 e))] = bcase (a == (0 : Int)) (bcase b (some [D.s (S.sc (Value.bool d))]) (some [D.s (S.sc (Value.bool false))])) (bcase (a == (1 : Int)) (bcase (!b) (some [D.s (S.sc (Value.bool d))]) (some [D.s (S.sc (Value.bool false))])) (bcase (decide ((0 : Int) < e)) (some [D.s (S.sc (Value.bool true))]) (bcase (e == (0 : Int)) (some [D.s (S.sc (Value.bool c))]) (some [D.s (S.sc (Value.bool false))])))) := (evalFn_J rfl nok _).trans (by kernel_rfl)
-- stuck: 0
end MMore
namespace MMore
def moreB (w : Int) (neg odd rest : Bool) (half : Int) : Bool := bif w == 0 then neg && rest else bif w == 1 then !neg && rest else (decide (0 < half) || (half == 0 && odd))
noncomputable def sp (a : Int) (b c d : Bool) (e : Int) : Prop × List D := (True, [.s (.sc (.bool (moreB a b c d e)))])
theorem spec (a : Int) (b c d : Bool) (e : Int) (h : (sp a b c d e).1) : evalFn E Tryz.f270 cod [(pN .i64).put a, pB.put b, pB.put c, pB.put d, (pN .i64).put e] = some (sp a b c d e).2 := by
  refine (start a b c d e).trans ?_
  show _ = some [D.s (.sc (.bool (moreB a b c d e)))]
  unfold moreB bcase
  cases (a == 0) <;> cases (a == 1) <;> cases b <;> cases c <;> cases d <;> cases (decide (0 < e)) <;> cases (e == 0) <;> rfl

noncomputable def orc : Orc := orc5 (pN .i64) pB pB pB (pN .i64) sp
theorem fnok : FnOk Tryz.prog E 270 Tryz.f270 cod := fnOk ty_ok mixed (callsOk_of _ rfl orcs_nil (ext_ok)) Tryz.func270 rfl rfl rfl
theorem ok : OrcOk Tryz.prog base.glob 270 orc := fnok.ok5 rfl spec
end MMore
end Go.Proofs.YtknafopmgaolmaaGreatDoor.W

/- gnomon/nat.Word -/
namespace Go.Proofs.YtknafopmgaolmaaGreatDoor.W
open Go Go.Proofs.YtknafopmgaolmaaGreatDoor.AI Go.Proofs.YtknafopmgaolmaaGreatDoor.M
namespace NWord
noncomputable def E : Env := { (base) with nt := 7, own := [], keep := fun k => (tlook [] k).getD [], cut := tlook [] }
noncomputable def cod : Code := (Go.Proofs.Tryz.f154.body).getD .skip
theorem nok : namesOk E cod = true := by kernel_rfl
theorem start (a : Int) : evalFn E Go.Proofs.Tryz.f154 cod [D.s (S.sc (Value.int IntKind.u64 a))] = bcase (a == (0 : Int)) (some [D.s (S.sc (Value.slice none (0 : Nat) (0 : Nat)))]) (some [D.own (23 : Nat) IntKind.u64 [a]]) := (evalFn_J rfl nok _).trans (by kernel_rfl)
-- stuck: 0
end NWord
namespace NWord
noncomputable def sp (w : Int) : Prop × List D := (0 ≤ w ∧ w < 18446744073709551616, [.s (.ints .u64 (M6.dg w.toNat))])
theorem spec (w : Int) (h : (sp w).1) : ∃ rs, evalFn E Tryz.f154 cod [(pN .u64).put w] = some rs ∧ RsLe rs (sp w).2 := by
  have e := start w
  obtain ⟨h1, h2⟩ := h
  unfold sp
  simp only
  by_cases hz : w = 0
  · rw [bE_pos hz] at e
    subst hz
    rw [show (0 : Int).toNat = 0 from rfl, M6.dg_zero]
    exact ⟨_, e, .cons (RLe.nil _) .nil⟩
  · rw [bE_neg hz] at e
    have : M6.dg w.toNat = [w] := by
      rw [M6.dg_pos (by omega), Nat.mod_eq_of_lt (by omega), Nat.div_eq_of_lt (by omega), M6.dg_zero]
      congr 1
      omega
    rw [this]
    exact ⟨_, e, .cons (RLe.own _ _ _) .nil⟩

noncomputable def orc : Orc := orc1 (pN .u64) sp
theorem fnok : FnOk Tryz.prog E 154 Tryz.f154 cod := fnOk ty_ok mixed (callsOk_of _ rfl orcs_nil (ext_ok)) Tryz.func154 rfl rfl rfl
theorem ok : OrcOk Tryz.prog base.glob 154 orc := fnok.wk1 rfl spec
end NWord
end Go.Proofs.YtknafopmgaolmaaGreatDoor.W

/- (gnomon/num.way).made -/
namespace Go.Proofs.YtknafopmgaolmaaGreatDoor.W
open Go Go.Proofs.YtknafopmgaolmaaGreatDoor.AI Go.Proofs.YtknafopmgaolmaaGreatDoor.M
namespace MMade
noncomputable def E : Env := { ({ base with C := callsOf [(239, NBit.orc), (270, MMore.orc), (160, MTold.orc), (154, NWord.orc), (161, NAdd.orc)] }) with nt := 39, own := [24, 36], keep := fun k => (tlook [] k).getD [], cut := tlook [] }
noncomputable def cod : Code := (Go.Proofs.Tryz.f240.body).getD .skip
theorem nok : namesOk E cod = true := by kernel_rfl
theorem start (a : Int) (b : Bool) (c : List Int) (d : Bool) (e : Int) : evalFn E Go.Proofs.Tryz.f240 cod [D.s (S.sc (Value.int IntKind.i64 a)), D.s (S.sc (Value.bool b)), D.s (S.ints IntKind.u64 c), D.s (S.sc (Value.bool d)), D.s (S.sc (Value.int IntKind.i64 e))] = gif (M6.Dig c ∧ c.length ≤ (1099511627776 : Nat) ∧ (-9223372036854775808 : Int) ≤ (0 : Int) ∧ (0 : Int) < (9223372036854775808 : Int)) (gif True (bcase (!MMore.moreB a b (true && decide (M6.val c / (1 : Nat) % (2 : Nat) = (1 : Nat))) d e) (gif (M6.Nrm c ∧ c.length ≤ (1099511627776 : Nat)) (some [D.agg [S.sc (Value.bool (isNeg (zs b (M6.val c)))), S.ints IntKind.u64 (M6.dg (zs b (M6.val c)).natAbs)], D.s (S.sc (Value.int IntKind.i64 (0 : Int)))])) (gif ((0 : Int) ≤ (1 : Int) ∧ (1 : Int) < (18446744073709551616 : Int)) (gif (M6.Nrm c ∧ M6.Nrm (M6.dg (1 : Nat)) ∧ c.length ≤ (8192 : Nat) ∧ (M6.dg (1 : Nat)).length ≤ (8192 : Nat)) (gif (M6.Nrm (bif NTold.okN (M6.val c + M6.val (M6.dg (1 : Nat))) then M6.dg (M6.val c + M6.val (M6.dg (1 : Nat))) else []) ∧ (bif NTold.okN (M6.val c + M6.val (M6.dg (1 : Nat))) then M6.dg (M6.val c + M6.val (M6.dg (1 : Nat))) else []).length ≤ (1099511627776 : Nat)) (some [D.agg [S.sc (Value.bool (isNeg (bif (bif NTold.okN (M6.val c + M6.val (M6.dg (1 : Nat))) then (0 : Int) else (5 : Int)) == (0 : Int) then zs b (M6.val (bif NTold.okN (M6.val c + M6.val (M6.dg (1 : Nat))) then M6.dg (M6.val c + M6.val (M6.dg (1 : Nat))) else [])) else (0 : Int)))), S.ints IntKind.u64 (M6.dg (bif (bif NTold.okN (M6.val c + M6.val (M6.dg (1 : Nat))) then (0 : Int) else (5 : Int)) == (0 : Int) then zs b (M6.val (bif NTold.okN (M6.val c + M6.val (M6.dg (1 : Nat))) then M6.dg (M6.val c + M6.val (M6.dg (1 : Nat))) else [])) else (0 : Int)).natAbs)], D.s (S.sc (Value.int IntKind.i64 (bif NTold.okN (M6.val c + M6.val (M6.dg (1 : Nat))) then (0 : Int) else (5 : Int))))])))))) := (evalFn_J rfl nok _).trans (by kernel_rfl)
-- stuck: 0
end MMade
namespace MMade
noncomputable def sp (w : Int) (neg : Bool) (q : List Int) (rest : Bool) (half : Int) : Prop × List D := (M6.Nrm q ∧ q.length ≤ 8192,
  wE (fit (M6.val q + bif MMore.moreB w neg (decide (M6.val q % 2 = 1)) rest half then 1 else 0)) (zs neg (M6.val q + bif MMore.moreB w neg (decide (M6.val q % 2 = 1)) rest half then 1 else 0)))
theorem spec (w : Int) (neg : Bool) (q : List Int) (rest : Bool) (half : Int) (h : (sp w neg q rest half).1) : evalFn E Tryz.f240 cod [(pN .i64).put w, pB.put neg, (pI .u64).put q, pB.put rest, (pN .i64).put half] = some (sp w neg q rest half).2 := by
  obtain ⟨h1, h2⟩ := h
  have hb := bl6_len h1.dig h2
  refine (start w neg q rest half).trans ?_
  unfold sp
  try dsimp only
  rw [gP ⟨h1.dig, by omega, by omega, by omega⟩, gP trivial, Nat.div_one, Bool.true_and]
  cases hm : MMore.moreB w neg (decide (M6.val q % 2 = 1)) rest half with
  | false =>
    have hf : fit (M6.val q + 0) = true := decide_eq_true (by rw [Nat.add_zero]; omega)
    rw [Bool.not_false, bT, gP ⟨h1, by omega⟩, cond_false, hf]
    rfl
  | true =>
    have o1 := len6_bl (n := 1) (k := 1) (bl_le.2 (by omega))
    rw [Bool.not_true, bF, gP ⟨by omega, by omega⟩, gP ⟨h1, M6.nrm_dg _, h2, by omega⟩, M6.val_dg, gP (nrm_bif (fun h => by rw [show NTold.okN _ = _ from len_fit] at h; exact fit_le h)), wE_told, show NTold.okN _ = _ from len_fit, cond_true]

noncomputable def orc : Orc := orc5 (pN .i64) pB (pI .u64) pB (pN .i64) sp
theorem fnok : FnOk Tryz.prog E 240 Tryz.f240 cod := fnOk ty_ok mixed (callsOk_of _ rfl (orcs_cons NBit.ok (orcs_cons MMore.ok (orcs_cons MTold.ok (orcs_cons NWord.ok (orcs_cons NAdd.ok orcs_nil))))) (ext_ok)) Tryz.func240 rfl rfl rfl
theorem ok : OrcOk Tryz.prog base.glob 240 orc := fnok.ok5 rfl spec
end MMade
end Go.Proofs.YtknafopmgaolmaaGreatDoor.W

/- (gnomon/num.way).shr -/
namespace Go.Proofs.YtknafopmgaolmaaGreatDoor.W
open Go Go.Proofs.YtknafopmgaolmaaGreatDoor.AI Go.Proofs.YtknafopmgaolmaaGreatDoor.M
namespace MShr
noncomputable def E : Env := { ({ base with C := callsOf [(150, MForm.orc), (152, NShr.orc), (151, NTrail.orc), (239, NBit.orc), (240, MMade.orc)] }) with nt := 61, own := [23, 58], keep := fun k => (tlook [] k).getD [], cut := tlook [(9, [0, 2, 4, 6, 8, 10]), (14, [0, 4, 6, 8, 10, 11])] }
noncomputable def cod : Code := (Go.Proofs.Tryz.f210.body).getD .skip
theorem nok : namesOk E cod = true := by kernel_rfl
noncomputable def J9 (x0 : Int) (x1 : Int) (b2 : Bool) (xs3 : List Int) (b4 : Bool) (xs5 : List Int) (b6 : Bool) : Option (List D) := ctO E Go.Proofs.Tryz.f210 cod 9 [(A.v (V.one (L.s (S.sc (Value.int IntKind.i64 x0)))), none), (A.v (V.one (L.s (S.sc (Value.int IntKind.i64 x1)))), none), (A.v (V.one (L.ptr (2 : Nat) (0 : Nat))), some { e := (33 : Nat), cont := Cont.cells [S.sc (Value.bool b2), S.ints IntKind.u64 xs3] }), (A.v (V.one (L.ptr (3 : Nat) (0 : Nat))), some { e := (33 : Nat), cont := Cont.cells [S.sc (Value.bool b4), S.sc (Value.slice none (0 : Nat) (0 : Nat))] }), (A.v (V.one (L.s (S.ints IntKind.u64 xs5))), none), (A.v (V.one (L.s (S.sc (Value.bool b6)))), none)]
noncomputable def J14 (x0 : Int) (b1 : Bool) (xs2 : List Int) (b3 : Bool) (xs4 : List Int) (b5 : Bool) (x6 : Int) : Option (List D) := ctO E Go.Proofs.Tryz.f210 cod 14 [(A.v (V.one (L.s (S.sc (Value.int IntKind.i64 x0)))), none), (A.v (V.one (L.ptr (1 : Nat) (0 : Nat))), some { e := (33 : Nat), cont := Cont.cells [S.sc (Value.bool b1), S.ints IntKind.u64 xs2] }), (A.v (V.one (L.ptr (2 : Nat) (0 : Nat))), some { e := (33 : Nat), cont := Cont.cells [S.sc (Value.bool b3), S.sc (Value.slice none (0 : Nat) (0 : Nat))] }), (A.v (V.one (L.s (S.ints IntKind.u64 xs4))), none), (A.v (V.one (L.s (S.sc (Value.bool b5)))), none), (A.v (V.one (L.s (S.sc (Value.int IntKind.i64 x6)))), none)]
theorem start (a : Int) (b1 : Bool) (b2 : List Int) (c : Int) : evalFn E Go.Proofs.Tryz.f210 cod [D.s (S.sc (Value.int IntKind.i64 a)), D.agg [S.sc (Value.bool b1), S.ints IntKind.u64 b2], D.s (S.sc (Value.int IntKind.i64 c))] = bcase (decide (c < (0 : Int))) (some [D.agg [S.sc (Value.bool false), S.sc (Value.slice none (0 : Nat) (0 : Nat))], D.s (S.sc (Value.int IntKind.i64 (1 : Int)))]) (gif (b2.length ≤ (1099511627776 : Nat)) (bcase (!MForm.formI (b1, b2)) (some [D.agg [S.sc (Value.bool false), S.sc (Value.slice none (0 : Nat) (0 : Nat))], D.s (S.sc (Value.int IntKind.i64 (2 : Int)))]) (gif (M6.Nrm b2 ∧ b2.length ≤ (8192 : Nat) ∧ (0 : Int) ≤ c ∧ c < (4611686018427387904 : Int)) (bcase (decide ((0 : Int) < (↑b2.length : Int))) (gif (M6.Dig b2 ∧ b2.length ≤ (1099511627776 : Nat)) (MShr.J9 a c b1 b2 false (M6.dg (M6.val b2 / (2 : Nat) ^ c.toNat)) (decide ((↑(tz (M6.val b2)) : Int) < c)))) (MShr.J9 a c b1 b2 false (M6.dg (M6.val b2 / (2 : Nat) ^ c.toNat)) false))))) := (evalFn_J rfl nok _).trans (by kernel_rfl)
theorem J9_eq (x0 : Int) (x1 : Int) (b2 : Bool) (xs3 : List Int) (b4 : Bool) (xs5 : List Int) (b6 : Bool) : J9 x0 x1 b2 xs3 b4 xs5 b6 = gif (M6.Dig xs3 ∧ xs3.length ≤ (1099511627776 : Nat) ∧ (-9223372036854775808 : Int) ≤ IntKind.i64.wrap (x1 - (1 : Int)) ∧ IntKind.i64.wrap (x1 - (1 : Int)) < (9223372036854775808 : Int)) (bcase (decide ((0 : Int) ≤ IntKind.i64.wrap (x1 - (1 : Int))) && decide (M6.val xs3 / (2 : Nat) ^ (IntKind.i64.wrap (x1 - (1 : Int))).toNat % (2 : Nat) = (1 : Nat))) (gif (M6.Dig xs3 ∧ xs3.length ≤ (1099511627776 : Nat)) (bcase ((↑(tz (M6.val xs3)) : Int) == IntKind.i64.wrap (x1 - (1 : Int))) (MShr.J14 x0 b2 xs3 b4 xs5 b6 (0 : Int)) (MShr.J14 x0 b2 xs3 b4 xs5 b6 (1 : Int)))) (MShr.J14 x0 b2 xs3 b4 xs5 b6 (-1 : Int))) := (cutAt_J rfl nok 9 _).trans (by kernel_rfl)
theorem J14_eq (x0 : Int) (b1 : Bool) (xs2 : List Int) (b3 : Bool) (xs4 : List Int) (b5 : Bool) (x6 : Int) : J14 x0 b1 xs2 b3 xs4 b5 x6 = gif (M6.Nrm xs4 ∧ xs4.length ≤ (8192 : Nat)) (some [D.agg [S.sc (Value.bool (isNeg (bif fit (M6.val xs4 + bif MMore.moreB x0 b1 (decide (M6.val xs4 % (2 : Nat) = (1 : Nat))) b5 x6 then (1 : Nat) else (0 : Nat)) then zs b1 (M6.val xs4 + bif MMore.moreB x0 b1 (decide (M6.val xs4 % (2 : Nat) = (1 : Nat))) b5 x6 then (1 : Nat) else (0 : Nat)) else (0 : Int)))), S.ints IntKind.u64 (M6.dg (bif fit (M6.val xs4 + bif MMore.moreB x0 b1 (decide (M6.val xs4 % (2 : Nat) = (1 : Nat))) b5 x6 then (1 : Nat) else (0 : Nat)) then zs b1 (M6.val xs4 + bif MMore.moreB x0 b1 (decide (M6.val xs4 % (2 : Nat) = (1 : Nat))) b5 x6 then (1 : Nat) else (0 : Nat)) else (0 : Int)).natAbs)], D.s (S.sc (Value.int IntKind.i64 (bif fit (M6.val xs4 + bif MMore.moreB x0 b1 (decide (M6.val xs4 % (2 : Nat) = (1 : Nat))) b5 x6 then (1 : Nat) else (0 : Nat)) then (0 : Int) else (5 : Int))))]) := (cutAt_J rfl nok 14 _).trans (by kernel_rfl)
-- stuck: 0
end MShr
namespace MShr
/-- Is anything left below? And how does it stand to one half? -/
def restB (v : Nat) (n : Int) : Bool := decide (v ≠ 0) && decide ((tz v : Int) < n)
def halfV (v : Nat) (n : Int) : Int := bif decide (0 ≤ n - 1) && decide (v / 2 ^ (n - 1).toNat % 2 = 1) then (bif ((tz v : Int) == n - 1) then 0 else 1) else -1
/-- The size of the answer. -/
def shrN (w : Int) (neg : Bool) (v : Nat) (n : Int) : Nat := v / 2 ^ n.toNat + bif MMore.moreB w neg (decide (v / 2 ^ n.toNat % 2 = 1)) (restB v n) (halfV v n) then 1 else 0
noncomputable def sp (w : Int) (x : Bool × List Int) (n : Int) : Prop × List D := (Wok x ∧ 0 ≤ n ∧ n < 4611686018427387904, wE (fit (shrN w x.1 (M6.val x.2) n)) (zs x.1 (shrN w x.1 (M6.val x.2) n)))
theorem spec (w : Int) (x : Bool × List Int) (n : Int) (h : (sp w x n).1) : evalFn E Tryz.f210 cod [(pN .i64).put w, (pG (.pair sB (sI .u64))).put x, (pN .i64).put n] = some (sp w x n).2 := by
  obtain ⟨hx, h0, h1⟩ := h
  refine (start w x.1 x.2 n).trans ?_
  have l1 := hx.len
  have f1 := MForm.form_ok hx
  have b1 := hx.bl
  obtain ⟨p, a⟩ := x
  have n1 : M6.Nrm a := hx.1
  try dsimp only at *
  unfold sp
  try dsimp only
  have hq := len6_bl (n := M6.val a / 2 ^ n.toNat) (k := 8192) (Nat.le_trans (bl_mono (Nat.div_le_self _ _)) b1)
  have j14 : ∀ (r : Bool) (hf : Int), J14 w p a false (M6.dg (M6.val a / 2 ^ n.toNat)) r hf = some (wE (fit (M6.val a / 2 ^ n.toNat + bif MMore.moreB w p (decide (M6.val a / 2 ^ n.toNat % 2 = 1)) r hf then 1 else 0)) (zs p (M6.val a / 2 ^ n.toNat + bif MMore.moreB w p (decide (M6.val a / 2 ^ n.toNat % 2 = 1)) r hf then 1 else 0))) := by
    intro r hf
    rw [J14_eq, gP ⟨M6.nrm_dg _, hq⟩, M6.val_dg]
    rfl
  have wn : IntKind.i64.wrap (n - 1) = n - 1 := by rw [wrap_i64 (by omega) (by omega)]
  have j9 : ∀ r : Bool, J9 w n p a false (M6.dg (M6.val a / 2 ^ n.toNat)) r = some (wE (fit (M6.val a / 2 ^ n.toNat + bif MMore.moreB w p (decide (M6.val a / 2 ^ n.toNat % 2 = 1)) r (halfV (M6.val a) n) then 1 else 0)) (zs p (M6.val a / 2 ^ n.toNat + bif MMore.moreB w p (decide (M6.val a / 2 ^ n.toNat % 2 = 1)) r (halfV (M6.val a) n) then 1 else 0))) := by
    intro r
    rw [J9_eq, wn, gP ⟨n1.dig, by omega, by omega, by omega⟩, j14, j14, j14, gP ⟨n1.dig, by omega⟩]
    unfold halfV bcase
    cases (decide (0 ≤ n - 1) && decide (M6.val a / 2 ^ (n - 1).toNat % 2 = 1)) with
    | false => rfl
    | true => cases ((tz (M6.val a) : Int) == n - 1) <;> rfl
  have hz := M6.len_zero n1
  rw [bD_neg (by omega), gP (by omega), f1, Bool.not_true, bF, gP ⟨n1, l1, h0, h1⟩, j9, j9, gP ⟨n1.dig, by omega⟩]
  unfold shrN restB
  by_cases h : M6.val a = 0
  · rw [bD_neg (by have := hz.2 h; omega), decide_eq_false (show ¬ (M6.val a ≠ 0) by omega), Bool.false_and]
  · rw [bD_pos (by have : a.length ≠ 0 := fun hl => h (hz.1 hl); omega), decide_eq_true (show (M6.val a ≠ 0) by omega), Bool.true_and]

noncomputable def orc : Orc := orc3 (pN .i64) (pG (.pair sB (sI .u64))) (pN .i64) sp
theorem fnok : FnOk Tryz.prog E 210 Tryz.f210 cod := fnOk ty_ok mixed (callsOk_of _ rfl (orcs_cons MForm.ok (orcs_cons NShr.ok (orcs_cons NTrail.ok (orcs_cons NBit.ok (orcs_cons MMade.ok orcs_nil))))) (ext_ok)) Tryz.func210 rfl rfl rfl
theorem ok : OrcOk Tryz.prog base.glob 210 orc := fnok.ok3 rfl spec
end MShr
end Go.Proofs.YtknafopmgaolmaaGreatDoor.W

/- gnomon/num.FloorShr -/
namespace Go.Proofs.YtknafopmgaolmaaGreatDoor.W
open Go Go.Proofs.YtknafopmgaolmaaGreatDoor.AI Go.Proofs.YtknafopmgaolmaaGreatDoor.M
namespace MFloorShr
noncomputable def E : Env := { ({ base with C := callsOf [(210, MShr.orc)] }) with nt := 11, own := [8], keep := fun k => (tlook [] k).getD [], cut := tlook [] }
noncomputable def cod : Code := (Go.Proofs.Tryz.f179.body).getD .skip
theorem nok : namesOk E cod = true := by kernel_rfl
theorem start (a1 : Bool) (a2 : List Int) (b : Int) : evalFn E Go.Proofs.Tryz.f179 cod [D.agg [S.sc (Value.bool a1), S.ints IntKind.u64 a2], D.s (S.sc (Value.int IntKind.i64 b))] = gif (Wok (a1, a2) ∧ (0 : Int) ≤ b ∧ b < (4611686018427387904 : Int)) (some [D.agg [S.sc (Value.bool (isNeg (bif fit (MShr.shrN (0 : Int) a1 (M6.val a2) b) then zs a1 (MShr.shrN (0 : Int) a1 (M6.val a2) b) else (0 : Int)))), S.ints IntKind.u64 (M6.dg (bif fit (MShr.shrN (0 : Int) a1 (M6.val a2) b) then zs a1 (MShr.shrN (0 : Int) a1 (M6.val a2) b) else (0 : Int)).natAbs)], D.s (S.sc (Value.int IntKind.i64 (bif fit (MShr.shrN (0 : Int) a1 (M6.val a2) b) then (0 : Int) else (5 : Int))))]) := (evalFn_J rfl nok _).trans (by kernel_rfl)
-- stuck: 0
end MFloorShr
namespace MFloorShr
theorem rest_iff {v : Nat} {n : Int} (h : 0 ≤ n) : MShr.restB v n = decide (v % 2 ^ n.toNat ≠ 0) := by
  unfold MShr.restB
  by_cases hv : v = 0
  · subst hv
    rw [decide_eq_false (by omega), Bool.false_and, Nat.zero_mod]
    rfl
  · rw [decide_eq_true hv, Bool.true_and]
    have hs := tz_spec v hv
    obtain ⟨k, rfl⟩ := Int.eq_ofNat_of_zero_le h
    rw [Int.toNat_natCast]
    generalize tz v = j at *
    by_cases hk : j < k
    · have : v % 2 ^ k ≠ 0 := by
        intro hm
        have e1 : v = 2 ^ k * (v / 2 ^ k) := by have := Nat.div_add_mod v (2 ^ k); omega
        have e2 : v / 2 ^ j = 2 * (2 ^ (k - j - 1) * (v / 2 ^ k)) := by
          have hp : 2 ^ k = 2 ^ j * (2 * 2 ^ (k - j - 1)) := by
            rw [← Nat.pow_succ', ← Nat.pow_add]
            congr 1
            omega
          generalize v / 2 ^ k = t at e1 ⊢
          rw [e1, hp, Nat.mul_assoc, Nat.mul_div_cancel_left _ (Nat.pow_pos (by decide)), Nat.mul_assoc]
        omega
      rw [decide_eq_true (by omega), decide_eq_true this]
    · have : v % 2 ^ k = 0 := by
        have hp : 2 ^ j = 2 ^ k * 2 ^ (j - k) := by rw [← Nat.pow_add]; congr 1; omega
        have e1 : v = 2 ^ j * (v / 2 ^ j) := by have := Nat.div_add_mod v (2 ^ j); omega
        rw [e1, hp, Nat.mul_assoc, Nat.mul_mod_right]
      rw [decide_eq_false (by omega), decide_eq_false (by omega)]
/-- Down. -/
theorem down {p : Bool} {v : Nat} {n : Int} (h : 0 ≤ n) : zs p (MShr.shrN 0 p v n) = zs p v / ((2 ^ n.toNat : Nat) : Int) := by
  unfold MShr.shrN MMore.moreB
  rw [rest_iff h, show ((0 : Int) == 0) = true from rfl, cond_true]
  have hp : 0 < 2 ^ n.toNat := Nat.pow_pos (by omega)
  have hd := Nat.div_add_mod v (2 ^ n.toNat)
  have hm := Nat.mod_lt v hp
  generalize 2 ^ n.toNat = q at *
  cases p with
  | false =>
    rw [Bool.false_and, cond_false, Nat.add_zero]
    show ((v / q : Nat) : Int) = (v : Int) / (q : Int)
    rw [Int.natCast_ediv]
  | true =>
    rw [Bool.true_and]
    show -(((v / q + bif decide (v % q ≠ 0) then 1 else 0 : Nat)) : Int) = -(v : Int) / (q : Int)
    by_cases hz : v % q = 0
    · rw [decide_eq_false (by omega), cond_false, Nat.add_zero]
      have e : -(v : Int) = (q : Int) * (-((v / q : Nat) : Int)) := by
        rw [Int.mul_neg, ← Int.natCast_mul]
        omega
      rw [e, Int.mul_ediv_cancel_left _ (by omega)]
    · rw [decide_eq_true hz, cond_true]
      have e : -(v : Int) = ((q - v % q : Nat) : Int) + (q : Int) * (-((v / q + 1 : Nat) : Int)) := by
        rw [Int.mul_neg, ← Int.natCast_mul, Nat.mul_add]
        omega
      rw [e, Int.add_mul_ediv_left _ _ (by omega), Int.ediv_eq_zero_of_lt (by omega) (by omega), Int.zero_add]
theorem small {p : Bool} {v : Nat} {n : Int} (h : 0 ≤ n) (hb : bl v ≤ 524288) : fit (MShr.shrN 0 p v n) = true := by
  refine decide_eq_true (Nat.le_trans (bl_mono ?_) hb)
  unfold MShr.shrN MMore.moreB
  rw [rest_iff h, show ((0 : Int) == 0) = true from rfl, cond_true]
  have hp : 0 < 2 ^ n.toNat := Nat.pow_pos (by omega)
  by_cases hz : v % 2 ^ n.toNat = 0
  · rw [decide_eq_false (by omega), Bool.and_false, cond_false]
    exact Nat.div_le_self _ _
  · have h2 : 2 ≤ 2 ^ n.toNat := by
      refine Nat.le_of_not_lt fun hc => hz ?_
      rw [show 2 ^ n.toNat = 1 from by omega, Nat.mod_one]
    have : v / 2 ^ n.toNat ≤ v / 2 := Nat.div_le_div_left h2 (by omega)
    have hv : v ≠ 0 := fun h => hz (by rw [h, Nat.zero_mod])
    have : (bif p && decide (v % 2 ^ n.toNat ≠ 0) then (1 : Nat) else 0) ≤ 1 := by cases p <;> cases decide (v % 2 ^ n.toNat ≠ 0) <;> decide
    omega
noncomputable def sp (x : Bool × List Int) (n : Int) : Prop × List D := (Wok x ∧ 0 ≤ n ∧ n < 4611686018427387904, [wD (wv x / ((2 ^ n.toNat : Nat) : Int)), .s (.sc (.int .i64 0))])
theorem spec (x : Bool × List Int) (n : Int) (h : (sp x n).1) : evalFn E Tryz.f179 cod [(pG (.pair sB (sI .u64))).put x, (pN .i64).put n] = some (sp x n).2 := by
  have h' := h
  obtain ⟨hx, h0, h1⟩ := h
  refine (start x.1 x.2 n).trans ((gP h').trans ?_)
  unfold sp
  try dsimp only
  rw [small h0 hx.bl]
  show some (wE true _) = _
  rw [down h0]
  rfl

noncomputable def orc : Orc := orc2 (pG (.pair sB (sI .u64))) (pN .i64) sp
theorem fnok : FnOk Tryz.prog E 179 Tryz.f179 cod := fnOk ty_ok mixed (callsOk_of _ rfl (orcs_cons MShr.ok orcs_nil) (ext_ok)) Tryz.func179 rfl rfl rfl
theorem ok : OrcOk Tryz.prog base.glob 179 orc := fnok.ok2 rfl spec
end MFloorShr
end Go.Proofs.YtknafopmgaolmaaGreatDoor.W

/- gnomon/dyadic.cut -/
namespace Go.Proofs.YtknafopmgaolmaaGreatDoor.W
open Go Go.Proofs.YtknafopmgaolmaaGreatDoor.AI Go.Proofs.YtknafopmgaolmaaGreatDoor.M
namespace DCut
noncomputable def E : Env := { ({ base with C := callsOf [(179, MFloorShr.orc)] }) with nt := 22, own := [], keep := fun k => (tlook [] k).getD [], cut := tlook [] }
noncomputable def cod : Code := (Go.Proofs.Tryz.f211.body).getD .skip
theorem nok : namesOk E cod = true := by kernel_rfl
theorem start (a1 : Bool) (a2 : List Int) (b : Int) (c : Bool) : evalFn E Go.Proofs.Tryz.f211 cod [D.agg [S.sc (Value.bool a1), S.ints IntKind.u64 a2], D.s (S.sc (Value.int IntKind.i64 b)), D.s (S.sc (Value.bool c))] = bcase c none (gif (Wok (a1, a2) ∧ (0 : Int) ≤ b ∧ b < (4611686018427387904 : Int)) (some [D.agg [S.sc (Value.bool (isNeg (wv (a1, a2) / (↑((2 : Nat) ^ b.toNat) : Int)))), S.ints IntKind.u64 (M6.dg (wv (a1, a2) / (↑((2 : Nat) ^ b.toNat) : Int)).natAbs)]])) := (evalFn_J rfl nok _).trans (by kernel_rfl)
-- stuck: 0
end DCut
namespace DCut
noncomputable def sp (x : Bool × List Int) (n : Int) (up : Bool) : Prop × List D := (Wok x ∧ (0 ≤ n ∧ n < 4611686018427387904) ∧ up = false, [wD (wv x / ((2 ^ n.toNat : Nat) : Int))])
theorem spec (x : Bool × List Int) (n : Int) (up : Bool) (h : (sp x n up).1) : evalFn E Tryz.f211 cod [(pG (.pair sB (sI .u64))).put x, (pN .i64).put n, pB.put up] = some (sp x n up).2 := by
  obtain ⟨h1, h2, rfl⟩ := h
  refine (start x.1 x.2 n false).trans ?_
  rw [bF, gP ⟨h1, h2⟩]
  rfl

noncomputable def orc : Orc := orc3 (pG (.pair sB (sI .u64))) (pN .i64) pB sp
theorem fnok : FnOk Tryz.prog E 211 Tryz.f211 cod := fnOk ty_ok mixed (callsOk_of _ rfl (orcs_cons MFloorShr.ok orcs_nil) (ext_ok)) Tryz.func211 rfl rfl rfl
theorem ok : OrcOk Tryz.prog base.glob 211 orc := fnok.ok3 rfl spec
end DCut
end Go.Proofs.YtknafopmgaolmaaGreatDoor.W

/- gnomon/dyadic.grid -/
namespace Go.Proofs.YtknafopmgaolmaaGreatDoor.W
open Go Go.Proofs.YtknafopmgaolmaaGreatDoor.AI Go.Proofs.YtknafopmgaolmaaGreatDoor.M
namespace DGrid
noncomputable def E : Env := { ({ base with C := callsOf [(96, DForm.orc), (102, DNought.orc), (103, DTwin.orc), (164, NBits.orc), (211, DCut.orc), (97, DMake.orc)] }) with nt := 49, own := [46], keep := fun k => (tlook [] k).getD [], cut := tlook [(5, [1, 2, 3, 6]), (8, [1, 2, 3, 6, 8])] }
noncomputable def cod : Code := (Go.Proofs.Tryz.f167.body).getD .skip
theorem nok : namesOk E cod = true := by kernel_rfl
noncomputable def J5 (x0 : Int) (b1 : Bool) (b2 : Bool) (xs3 : List Int) (x4 : Int) (b5 : Bool) (x6 : Int) : Option (List D) := ctO E Go.Proofs.Tryz.f167 cod 5 [(A.v (V.one (L.s (S.sc (Value.int IntKind.i64 x0)))), none), (A.v (V.one (L.s (S.sc (Value.bool b1)))), none), (A.v (V.one (L.ptr (2 : Nat) (0 : Nat))), some { e := (35 : Nat), cont := Cont.cells [S.sc (Value.bool b2), S.ints IntKind.u64 xs3, S.sc (Value.int IntKind.i64 x4)] }), (A.v (V.one (L.ptr (3 : Nat) (0 : Nat))), some { e := (35 : Nat), cont := Cont.cells [S.sc (Value.bool b5), S.sc (Value.slice none (0 : Nat) (0 : Nat)), S.sc (Value.int IntKind.i64 x6)] })]
noncomputable def J8 (x0 : Int) (b1 : Bool) (b2 : Bool) (xs3 : List Int) (x4 : Int) (b5 : Bool) (x6 : Int) (x7 : Int) : Option (List D) := ctO E Go.Proofs.Tryz.f167 cod 8 [(A.v (V.one (L.s (S.sc (Value.int IntKind.i64 x0)))), none), (A.v (V.one (L.s (S.sc (Value.bool b1)))), none), (A.v (V.one (L.ptr (2 : Nat) (0 : Nat))), some { e := (35 : Nat), cont := Cont.cells [S.sc (Value.bool b2), S.ints IntKind.u64 xs3, S.sc (Value.int IntKind.i64 x4)] }), (A.v (V.one (L.ptr (3 : Nat) (0 : Nat))), some { e := (35 : Nat), cont := Cont.cells [S.sc (Value.bool b5), S.sc (Value.slice none (0 : Nat) (0 : Nat)), S.sc (Value.int IntKind.i64 x6)] }), (A.v (V.one (L.s (S.sc (Value.int IntKind.i64 x7)))), none)]
theorem start (a1 : Bool) (a2 : List Int) (a3 : Int) (b : Int) (c : Bool) : evalFn E Go.Proofs.Tryz.f167 cod [D.agg [S.sc (Value.bool a1), S.ints IntKind.u64 a2, S.sc (Value.int IntKind.i64 a3)], D.s (S.sc (Value.int IntKind.i64 b)), D.s (S.sc (Value.bool c))] = gif (DyOk (a1, a2, a3)) (gif True (bcase ((↑a2.length : Int) == (0 : Int)) (gif (a2.length ≤ (1099511627776 : Nat)) (some [D.agg [S.sc (Value.bool a1), S.ints IntKind.u64 a2, S.sc (Value.int IntKind.i64 a3)], D.s (S.sc (Value.int IntKind.i64 (0 : Int)))])) (bcase (decide (b ≤ a3)) (gif (a2.length ≤ (1099511627776 : Nat)) (some [D.agg [S.sc (Value.bool a1), S.ints IntKind.u64 a2, S.sc (Value.int IntKind.i64 a3)], D.s (S.sc (Value.int IntKind.i64 (0 : Int)))])) (DGrid.J5 b c a1 a2 a3 false (0 : Int))))) := (evalFn_J rfl nok _).trans (by kernel_rfl)
theorem J5_eq (x0 : Int) (b1 : Bool) (b2 : Bool) (xs3 : List Int) (x4 : Int) (b5 : Bool) (x6 : Int) : J5 x0 b1 b2 xs3 x4 b5 x6 = gif (M6.Dig xs3 ∧ xs3.length ≤ (1099511627776 : Nat)) (bcase (decide (x0 < IntKind.i64.wrap (x4 + IntKind.i64.wrap ((↑(bl (M6.val xs3)) : Int) + (1 : Int))))) (DGrid.J8 x0 b1 b2 xs3 x4 b5 x6 (IntKind.i64.wrap (x0 - x4))) (DGrid.J8 x0 b1 b2 xs3 x4 b5 x6 (IntKind.i64.wrap ((↑(bl (M6.val xs3)) : Int) + (1 : Int))))) := (cutAt_J rfl nok 5 _).trans (by kernel_rfl)
theorem J8_eq (x0 : Int) (b1 : Bool) (b2 : Bool) (xs3 : List Int) (x4 : Int) (b5 : Bool) (x6 : Int) (x7 : Int) : J8 x0 b1 b2 xs3 x4 b5 x6 x7 = gif (Wok (b2, xs3) ∧ ((0 : Int) ≤ x7 ∧ x7 < (4611686018427387904 : Int)) ∧ b1 = false) (gif (Wok (isNeg (wv (b2, xs3) / (↑((2 : Nat) ^ x7.toNat) : Int)), M6.dg (wv (b2, xs3) / (↑((2 : Nat) ^ x7.toNat) : Int)).natAbs) ∧ (-9223372036854775808 : Int) ≤ x0 ∧ x0 < (9223372036854775808 : Int)) (some [D.agg [S.sc (Value.bool (isNeg (bif inD (wv (isNeg (wv (b2, xs3) / (↑((2 : Nat) ^ x7.toNat) : Int)), M6.dg (wv (b2, xs3) / (↑((2 : Nat) ^ x7.toNat) : Int)).natAbs)) x0 then nrmD (wv (isNeg (wv (b2, xs3) / (↑((2 : Nat) ^ x7.toNat) : Int)), M6.dg (wv (b2, xs3) / (↑((2 : Nat) ^ x7.toNat) : Int)).natAbs)) x0 else ((0 : Int), (0 : Int))).fst)), S.ints IntKind.u64 (M6.dg (bif inD (wv (isNeg (wv (b2, xs3) / (↑((2 : Nat) ^ x7.toNat) : Int)), M6.dg (wv (b2, xs3) / (↑((2 : Nat) ^ x7.toNat) : Int)).natAbs)) x0 then nrmD (wv (isNeg (wv (b2, xs3) / (↑((2 : Nat) ^ x7.toNat) : Int)), M6.dg (wv (b2, xs3) / (↑((2 : Nat) ^ x7.toNat) : Int)).natAbs)) x0 else ((0 : Int), (0 : Int))).fst.natAbs), S.sc (Value.int IntKind.i64 (bif inD (wv (isNeg (wv (b2, xs3) / (↑((2 : Nat) ^ x7.toNat) : Int)), M6.dg (wv (b2, xs3) / (↑((2 : Nat) ^ x7.toNat) : Int)).natAbs)) x0 then nrmD (wv (isNeg (wv (b2, xs3) / (↑((2 : Nat) ^ x7.toNat) : Int)), M6.dg (wv (b2, xs3) / (↑((2 : Nat) ^ x7.toNat) : Int)).natAbs)) x0 else ((0 : Int), (0 : Int))).snd)], D.s (S.sc (Value.int IntKind.i64 (bif inD (wv (isNeg (wv (b2, xs3) / (↑((2 : Nat) ^ x7.toNat) : Int)), M6.dg (wv (b2, xs3) / (↑((2 : Nat) ^ x7.toNat) : Int)).natAbs)) x0 then (0 : Int) else (5 : Int))))])) := (cutAt_J rfl nok 8 _).trans (by kernel_rfl)
-- stuck: 0
end DGrid
namespace DGrid
/-- The greatest multiple of 2^b that is at most p. -/
def gridD (p : Int × Int) (b : Int) : Int × Int := if p.1 = 0 ∨ b ≤ p.2 then p else nrmD (p.1 / ((2 ^ (b - p.2).toNat : Nat) : Int)) b
def gridOk (p : Int × Int) (b : Int) : Bool := decide (p.1 = 0 ∨ b ≤ p.2) || inD (p.1 / ((2 ^ (b - p.2).toNat : Nat) : Int)) b
noncomputable def sp (x : Bool × List Int × Int) (b : Int) (up : Bool) : Prop × List D := (DyOk x ∧ (-4611686018427387904 ≤ b ∧ b < 4611686018427387904) ∧ up = false, dE (gridOk (dv x) b) (gridD (dv x) b))
theorem spec (x : Bool × List Int × Int) (k : Int) (up : Bool) (h : (sp x k up).1) : evalFn E Tryz.f167 cod [(pG (.pair sB (.pair (sI .u64) (sN .i64)))).put x, (pN .i64).put k, pB.put up] = some (sp x k up).2 := by
  obtain ⟨h, hk, rfl⟩ := h
  refine (start x.1 x.2.1 x.2.2 k false).trans ?_
  have hl := h.len
  have hd := h.dD
  have hr := h.2.1
  have hb := h.wok.bl
  have hw := h.wok
  have hn := h.nrm
  obtain ⟨b, a, e⟩ := x
  try dsimp only at *
  unfold sp
  try dsimp only
  have hz := M6.len_zero hn
  have ha := wv_abs (b, a)
  try dsimp only at ha hz
  rw [gP h, gP trivial]
  have same : ((dv (b, a, e)).1 = 0 ∨ k ≤ (dv (b, a, e)).2) → dE (gridOk (dv (b, a, e)) k) (gridD (dv (b, a, e)) k) = [D.agg [.sc (.bool b), .ints .u64 a, .sc (.int .i64 e)], .s (.sc (.int .i64 0))] := by
    intro hc
    unfold gridOk gridD
    rw [decide_eq_true hc, Bool.true_or, if_pos hc]
    show [M.dD (dv (b, a, e)), _] = _
    rw [hd]
    rfl
  by_cases h0 : a.length = 0
  · rw [bE_pos (by omega), gP (by omega), same (.inl (by have := hz.1 h0; show wv (b, a) = 0; omega))]
  · rw [bE_neg (by omega)]
    by_cases h1 : k ≤ e
    · rw [bD_pos h1, gP (by omega), same (.inr h1)]
    · have hz0 : wv (b, a) ≠ 0 := by have : M6.val a ≠ 0 := fun h => h0 (hz.2 h); omega
      have hno : ¬ ((dv (b, a, e)).1 = 0 ∨ k ≤ (dv (b, a, e)).2) := by
        rintro (hc | hc)
        · exact hz0 hc
        · exact h1 hc
      have j8 : ∀ n : Int, 0 ≤ n → n < 4611686018427387904 → wv (b, a) / ((2 ^ n.toNat : Nat) : Int) = wv (b, a) / ((2 ^ (k - e).toNat : Nat) : Int) → J8 k false b a e false 0 n = some (dE (gridOk (dv (b, a, e)) k) (gridD (dv (b, a, e)) k)) := by
        intro n hn0 hn1 he
        have hq : bl (wv (b, a) / ((2 ^ (k - e).toNat : Nat) : Int)).natAbs ≤ 524288 := Nat.le_trans (bl_mono (div_abs (Nat.pow_pos (by decide)))) (by rw [ha]; exact hb)
        rw [J8_eq, gP ⟨hw, ⟨hn0, hn1⟩, rfl⟩, he, gP ⟨wok_wD hq, by omega, by omega⟩, wv_wD]
        unfold gridOk gridD
        rw [decide_eq_false hno, Bool.false_or, if_neg hno]
        rfl
      rw [bD_neg h1, J5_eq, gP ⟨hn.dig, by omega⟩, wrap_i64 (n := ((bl (M6.val a) : Nat) : Int) + 1) (by omega) (by omega), wrap_i64 (n := e + (((bl (M6.val a) : Nat) : Int) + 1)) (by omega) (by omega), wrap_i64 (n := k - e) (by omega) (by omega)]
      by_cases h2 : k < e + (((bl (M6.val a) : Nat) : Int) + 1)
      · rw [bD_pos h2, j8 _ (by omega) (by omega) rfl]
      · rw [bD_neg h2, j8 _ (by omega) (by omega) (far (by rw [ha]; omega) (by rw [ha]; omega))]

noncomputable def orc : Orc := orc3 (pG (.pair sB (.pair (sI .u64) (sN .i64)))) (pN .i64) pB sp
theorem fnok : FnOk Tryz.prog E 167 Tryz.f167 cod := fnOk ty_ok mixed (callsOk_of _ rfl (orcs_cons DForm.ok (orcs_cons DNought.ok (orcs_cons DTwin.ok (orcs_cons NBits.ok (orcs_cons DCut.ok (orcs_cons DMake.ok orcs_nil)))))) (ext_ok)) Tryz.func167 rfl rfl rfl
theorem ok : OrcOk Tryz.prog base.glob 167 orc := fnok.ok3 rfl spec
end DGrid
end Go.Proofs.YtknafopmgaolmaaGreatDoor.W

/- gnomon/num.Sign -/
namespace Go.Proofs.YtknafopmgaolmaaGreatDoor.W
open Go Go.Proofs.YtknafopmgaolmaaGreatDoor.AI Go.Proofs.YtknafopmgaolmaaGreatDoor.M
namespace MSign
noncomputable def E : Env := { ({ base with C := callsOf [(164, NBits.orc)] }) with nt := 11, own := [], keep := fun k => (tlook [] k).getD [], cut := tlook [] }
noncomputable def cod : Code := (Go.Proofs.Tryz.f190.body).getD .skip
theorem nok : namesOk E cod = true := by kernel_rfl
theorem start (a1 : Bool) (a2 : List Int) : evalFn E Go.Proofs.Tryz.f190 cod [D.agg [S.sc (Value.bool a1), S.ints IntKind.u64 a2]] = gif (M6.Dig a2 ∧ a2.length ≤ (1099511627776 : Nat)) (bcase ((↑(bl (M6.val a2)) : Int) == (0 : Int)) (some [D.s (S.sc (Value.int IntKind.i64 (0 : Int)))]) (bcase a1 (some [D.s (S.sc (Value.int IntKind.i64 (-1 : Int)))]) (some [D.s (S.sc (Value.int IntKind.i64 (1 : Int)))]))) := (evalFn_J rfl nok _).trans (by kernel_rfl)
-- stuck: 0
end MSign
namespace MSign
noncomputable def sp (x : Bool × List Int) : Prop × List D := (Wok x, [.s (.sc (.int .i64 (cmpZ (wv x) 0)))])
theorem spec (x : Bool × List Int) (h : (sp x).1) : evalFn E Tryz.f190 cod [(pG (.pair sB (sI .u64))).put x] = some (sp x).2 := by
  refine (start x.1 x.2).trans ?_
  have h : Wok x := h
  have hl := h.len
  obtain ⟨h1, h2, h3⟩ := h
  unfold sp
  simp only
  rw [gP ⟨h1.dig, by omega⟩]
  by_cases hz : M6.val x.2 = 0
  · rw [hz, bl_zero, bE_pos (a := ((0 : Nat) : Int)) (b := 0) rfl]
    cases hx : x.1 with
    | true => exact (h2 hx hz).elim
    | false => rw [wv_pos hx, hz]; rfl
  · have := bl_pos hz
    rw [bE_neg (by omega)]
    cases hx : x.1 with
    | true => rw [bT, wv_neg hx]; unfold cmpZ; rw [if_pos (by omega)]
    | false => rw [bF, wv_pos hx]; unfold cmpZ; rw [if_neg (by omega), if_pos (by omega)]

noncomputable def orc : Orc := orc1 (pG (.pair sB (sI .u64))) sp
theorem fnok : FnOk Tryz.prog E 190 Tryz.f190 cod := fnOk ty_ok mixed (callsOk_of _ rfl (orcs_cons NBits.ok orcs_nil) (ext_ok)) Tryz.func190 rfl rfl rfl
theorem ok : OrcOk Tryz.prog base.glob 190 orc := fnok.ok1 rfl spec
end MSign
end Go.Proofs.YtknafopmgaolmaaGreatDoor.W

/- gnomon/dyadic.top -/
namespace Go.Proofs.YtknafopmgaolmaaGreatDoor.W
open Go Go.Proofs.YtknafopmgaolmaaGreatDoor.AI Go.Proofs.YtknafopmgaolmaaGreatDoor.M
namespace DTop
noncomputable def E : Env := { ({ base with C := callsOf [(164, NBits.orc)] }) with nt := 11, own := [], keep := fun k => (tlook [] k).getD [], cut := tlook [] }
noncomputable def cod : Code := (Go.Proofs.Tryz.f192.body).getD .skip
theorem nok : namesOk E cod = true := by kernel_rfl
theorem start (a1 : Bool) (a2 : List Int) (a3 : Int) : evalFn E Go.Proofs.Tryz.f192 cod [D.agg [S.sc (Value.bool a1), S.ints IntKind.u64 a2, S.sc (Value.int IntKind.i64 a3)]] = gif (M6.Dig a2 ∧ a2.length ≤ (1099511627776 : Nat)) (some [D.s (S.sc (Value.int IntKind.i64 (IntKind.i64.wrap (IntKind.i64.wrap (a3 + (↑(bl (M6.val a2)) : Int)) - (1 : Int)))))]) := (evalFn_J rfl nok _).trans (by kernel_rfl)
-- stuck: 0
end DTop
namespace DTop
noncomputable def sp (x : Bool × List Int × Int) : Prop × List D := (DyOk x, [.s (.sc (.int .i64 (x.2.2 + (bl (M6.val x.2.1) : Nat) - 1)))])
theorem spec (x : Bool × List Int × Int) (h : (sp x).1) : evalFn E Tryz.f192 cod [(pG (.pair sB (.pair (sI .u64) (sN .i64)))).put x] = some (sp x).2 := by
  have h : DyOk x := h
  have hl := h.len
  have hb := h.wok.bl
  refine (start x.1 x.2.1 x.2.2).trans ?_
  have he := h.2.1
  try dsimp only at hb
  rw [gP ⟨h.nrm.dig, by omega⟩, wrap_i64 (n := x.2.2 + _) (by omega) (by omega), wrap_i64 (by omega) (by omega)]
  rfl

noncomputable def orc : Orc := orc1 (pG (.pair sB (.pair (sI .u64) (sN .i64)))) sp
theorem fnok : FnOk Tryz.prog E 192 Tryz.f192 cod := fnOk ty_ok mixed (callsOk_of _ rfl (orcs_cons NBits.ok orcs_nil) (ext_ok)) Tryz.func192 rfl rfl rfl
theorem ok : OrcOk Tryz.prog base.glob 192 orc := fnok.ok1 rfl spec
end DTop
end Go.Proofs.YtknafopmgaolmaaGreatDoor.W

/- gnomon/dyadic.size -/
namespace Go.Proofs.YtknafopmgaolmaaGreatDoor.W
open Go Go.Proofs.YtknafopmgaolmaaGreatDoor.AI Go.Proofs.YtknafopmgaolmaaGreatDoor.M
namespace DSize
noncomputable def E : Env := { ({ base with C := callsOf [(192, DTop.orc), (159, NShl.orc), (162, NCmp.orc)] }) with nt := 54, own := [53], keep := fun k => (tlook [] k).getD [], cut := tlook [] }
noncomputable def cod : Code := (Go.Proofs.Tryz.f191.body).getD .skip
theorem nok : namesOk E cod = true := by kernel_rfl
theorem start (a1 : Bool) (a2 : List Int) (a3 : Int) (b1 : Bool) (b2 : List Int) (b3 : Int) : evalFn E Go.Proofs.Tryz.f191 cod [D.agg [S.sc (Value.bool a1), S.ints IntKind.u64 a2, S.sc (Value.int IntKind.i64 a3)], D.agg [S.sc (Value.bool b1), S.ints IntKind.u64 b2, S.sc (Value.int IntKind.i64 b3)]] = gif (DyOk (a1, a2, a3)) (gif (DyOk (b1, b2, b3)) (bcase (decide (a3 + (↑(bl (M6.val a2)) : Int) - (1 : Int) < b3 + (↑(bl (M6.val b2)) : Int) - (1 : Int))) (some [D.s (S.sc (Value.int IntKind.i64 (-1 : Int)))]) (bcase (decide (b3 + (↑(bl (M6.val b2)) : Int) - (1 : Int) < a3 + (↑(bl (M6.val a2)) : Int) - (1 : Int))) (some [D.s (S.sc (Value.int IntKind.i64 (1 : Int)))]) (gif (M6.Nrm a2 ∧ a2.length ≤ (8192 : Nat) ∧ (0 : Int) ≤ IntKind.i64.wrap (a3 - if b3 < a3 then b3 else a3) ∧ IntKind.i64.wrap (a3 - if b3 < a3 then b3 else a3) < (4611686018427387904 : Int)) (gif (M6.Nrm b2 ∧ b2.length ≤ (8192 : Nat) ∧ (0 : Int) ≤ IntKind.i64.wrap (b3 - if b3 < a3 then b3 else a3) ∧ IntKind.i64.wrap (b3 - if b3 < a3 then b3 else a3) < (4611686018427387904 : Int)) (gif (M6.Dig (bif NShl.shlOk (M6.val a2) (IntKind.i64.wrap (a3 - if b3 < a3 then b3 else a3)).toNat then M6.dg (M6.val a2 * (2 : Nat) ^ (IntKind.i64.wrap (a3 - if b3 < a3 then b3 else a3)).toNat) else []) ∧ M6.Dig (bif NShl.shlOk (M6.val b2) (IntKind.i64.wrap (b3 - if b3 < a3 then b3 else a3)).toNat then M6.dg (M6.val b2 * (2 : Nat) ^ (IntKind.i64.wrap (b3 - if b3 < a3 then b3 else a3)).toNat) else []) ∧ (bif NShl.shlOk (M6.val a2) (IntKind.i64.wrap (a3 - if b3 < a3 then b3 else a3)).toNat then M6.dg (M6.val a2 * (2 : Nat) ^ (IntKind.i64.wrap (a3 - if b3 < a3 then b3 else a3)).toNat) else []).length ≤ (1099511627776 : Nat) ∧ (bif NShl.shlOk (M6.val b2) (IntKind.i64.wrap (b3 - if b3 < a3 then b3 else a3)).toNat then M6.dg (M6.val b2 * (2 : Nat) ^ (IntKind.i64.wrap (b3 - if b3 < a3 then b3 else a3)).toNat) else []).length ≤ (1099511627776 : Nat)) (some [D.s (S.sc (Value.int IntKind.i64 (cmpN (M6.val (bif NShl.shlOk (M6.val a2) (IntKind.i64.wrap (a3 - if b3 < a3 then b3 else a3)).toNat then M6.dg (M6.val a2 * (2 : Nat) ^ (IntKind.i64.wrap (a3 - if b3 < a3 then b3 else a3)).toNat) else [])) (M6.val (bif NShl.shlOk (M6.val b2) (IntKind.i64.wrap (b3 - if b3 < a3 then b3 else a3)).toNat then M6.dg (M6.val b2 * (2 : Nat) ^ (IntKind.i64.wrap (b3 - if b3 < a3 then b3 else a3)).toNat) else [])))))]))))))) := (evalFn_J rfl nok _).trans (by kernel_rfl)
-- stuck: 0
end DSize
namespace DSize
noncomputable def sp (x y : Bool × List Int × Int) : Prop × List D := ((DyOk x ∧ DyOk y) ∧ x.2.1.length ≠ 0 ∧ y.2.1.length ≠ 0, [.s (.sc (.int .i64 (cmpN (DAdd.addX (dv x) (dv y)).natAbs (DAdd.addY (dv x) (dv y)).natAbs)))])
theorem spec (x y : Bool × List Int × Int) (h : (sp x y).1) : evalFn E Tryz.f191 cod [(pG (.pair sB (.pair (sI .u64) (sN .i64)))).put x, (pG (.pair sB (.pair (sI .u64) (sN .i64)))).put y] = some (sp x y).2 := by
  obtain ⟨⟨hx, hy⟩, h0, g0⟩ := h
  refine (start x.1 x.2.1 x.2.2 y.1 y.2.1 y.2.2).trans ?_
  have lx := hx.len
  have ly := hy.len
  have nx := hx.nrm
  have ny := hy.nrm
  have bx := hx.wok.bl
  have by' := hy.wok.bl
  have rx := hx.2.1
  have ry := hy.2.1
  obtain ⟨b, a, e⟩ := x
  obtain ⟨c, d, f⟩ := y
  try dsimp only at *
  unfold sp
  try dsimp only
  have ax := wv_abs (b, a)
  have ay := wv_abs (c, d)
  try dsimp only at ax ay
  have vx : M6.val a ≠ 0 := fun h => h0 ((M6.len_zero nx).2 h)
  have vy : M6.val d ≠ 0 := fun h => g0 ((M6.len_zero ny).2 h)
  rw [gP hx, gP hy]
  have i1 : DAdd.addE (dv (b, a, e)) (dv (c, d, f)) ≤ e ∧ DAdd.addE (dv (b, a, e)) (dv (c, d, f)) ≤ f ∧ -1048576 ≤ DAdd.addE (dv (b, a, e)) (dv (c, d, f)) ∧ (DAdd.addE (dv (b, a, e)) (dv (c, d, f)) = e ∨ DAdd.addE (dv (b, a, e)) (dv (c, d, f)) = f) := by
    unfold DAdd.addE dv
    try dsimp only
    split <;> omega
  have u1 : IntKind.i64.wrap (e - DAdd.addE (dv (b, a, e)) (dv (c, d, f))) = e - DAdd.addE (dv (b, a, e)) (dv (c, d, f)) := wrap_i64 (by omega) (by omega)
  have u2 : IntKind.i64.wrap (f - DAdd.addE (dv (b, a, e)) (dv (c, d, f))) = f - DAdd.addE (dv (b, a, e)) (dv (c, d, f)) := wrap_i64 (by omega) (by omega)
  have e1 : (if f < e then f else e) = DAdd.addE (dv (b, a, e)) (dv (c, d, f)) := rfl
  have f1 : (DAdd.addX (dv (b, a, e)) (dv (c, d, f))).natAbs = M6.val a * 2 ^ (e - DAdd.addE (dv (b, a, e)) (dv (c, d, f))).toNat := by
    show (wv (b, a) * _).natAbs = _
    rw [Int.natAbs_mul, ax, Int.natAbs_natCast]
    rfl
  have f2 : (DAdd.addY (dv (b, a, e)) (dv (c, d, f))).natAbs = M6.val d * 2 ^ (f - DAdd.addE (dv (b, a, e)) (dv (c, d, f))).toNat := by
    show (wv (c, d) * _).natAbs = _
    rw [Int.natAbs_mul, ay, Int.natAbs_natCast]
    rfl
  rw [f1, f2, e1, u1, u2]
  generalize DAdd.addE (dv (b, a, e)) (dv (c, d, f)) = k at *
  have m1 : bl (M6.val a * 2 ^ (e - k).toNat) = (e - k).toNat + bl (M6.val a) := by rw [Nat.mul_comm, bl_mul vx]
  have m2 : bl (M6.val d * 2 ^ (f - k).toNat) = (f - k).toNat + bl (M6.val d) := by rw [Nat.mul_comm, bl_mul vy]
  have lt : ∀ m n : Nat, bl m < bl n → m < n := fun m n h => Nat.lt_of_not_le fun hc => by have := bl_mono hc; omega
  by_cases c1 : e + ((bl (M6.val a) : Nat) : Int) - 1 < f + ((bl (M6.val d) : Nat) : Int) - 1
  · have := lt (M6.val a * 2 ^ (e - k).toNat) (M6.val d * 2 ^ (f - k).toNat) (by rw [m1, m2]; omega)
    rw [bD_pos c1]
    unfold cmpN
    rw [if_pos this]
  · rw [bD_neg c1]
    by_cases c2 : f + ((bl (M6.val d) : Nat) : Int) - 1 < e + ((bl (M6.val a) : Nat) : Int) - 1
    · have := lt (M6.val d * 2 ^ (f - k).toNat) (M6.val a * 2 ^ (e - k).toNat) (by rw [m1, m2]; omega)
      rw [bD_pos c2]
      unfold cmpN
      rw [if_neg (by omega), if_pos this]
    · have o1 : NShl.shlOk (M6.val a) (e - k).toNat = true := by
        unfold NShl.shlOk
        rw [decide_eq_true (show bl (M6.val a) + (e - k).toNat ≤ 524288 by omega), Bool.or_true]
      have o2 : NShl.shlOk (M6.val d) (f - k).toNat = true := by
        unfold NShl.shlOk
        rw [decide_eq_true (show bl (M6.val d) + (f - k).toNat ≤ 524288 by omega), Bool.or_true]
      have k1 := len6_bl (n := M6.val a * 2 ^ (e - k).toNat) (k := 8192) (by rw [m1]; omega)
      have k2 := len6_bl (n := M6.val d * 2 ^ (f - k).toNat) (k := 8192) (by rw [m2]; omega)
      rw [bD_neg c2, gP ⟨nx, lx, by omega, by omega⟩, gP ⟨ny, ly, by omega, by omega⟩, o1, o2, cond_true, cond_true, gP ⟨M6.dig_dg _, M6.dig_dg _, by omega, by omega⟩, M6.val_dg, M6.val_dg]

noncomputable def orc : Orc := orc2 (pG (.pair sB (.pair (sI .u64) (sN .i64)))) (pG (.pair sB (.pair (sI .u64) (sN .i64)))) sp
theorem fnok : FnOk Tryz.prog E 191 Tryz.f191 cod := fnOk ty_ok mixed (callsOk_of _ rfl (orcs_cons DTop.ok (orcs_cons NShl.ok (orcs_cons NCmp.ok orcs_nil))) (ext_ok)) Tryz.func191 rfl rfl rfl
theorem ok : OrcOk Tryz.prog base.glob 191 orc := fnok.ok2 rfl spec
end DSize
end Go.Proofs.YtknafopmgaolmaaGreatDoor.W

/- gnomon/dyadic.Cmp -/
namespace Go.Proofs.YtknafopmgaolmaaGreatDoor.W
open Go Go.Proofs.YtknafopmgaolmaaGreatDoor.AI Go.Proofs.YtknafopmgaolmaaGreatDoor.M
namespace DCmp
noncomputable def E : Env := { ({ base with C := callsOf [(96, DForm.orc), (190, MSign.orc), (191, DSize.orc)] }) with nt := 38, own := [], keep := fun k => (tlook [] k).getD [], cut := tlook [(3, [2, 3])] }
noncomputable def cod : Code := (Go.Proofs.Tryz.f136.body).getD .skip
theorem nok : namesOk E cod = true := by kernel_rfl
noncomputable def J3 (b0 : Bool) (xs1 : List Int) (x2 : Int) (b3 : Bool) (xs4 : List Int) (x5 : Int) : Option (List D) := ctO E Go.Proofs.Tryz.f136 cod 3 [(A.v (V.one (L.ptr (0 : Nat) (0 : Nat))), some { e := (35 : Nat), cont := Cont.cells [S.sc (Value.bool b0), S.ints IntKind.u64 xs1, S.sc (Value.int IntKind.i64 x2)] }), (A.v (V.one (L.ptr (1 : Nat) (0 : Nat))), some { e := (35 : Nat), cont := Cont.cells [S.sc (Value.bool b3), S.ints IntKind.u64 xs4, S.sc (Value.int IntKind.i64 x5)] })]
theorem start (a1 : Bool) (a2 : List Int) (a3 : Int) (b1 : Bool) (b2 : List Int) (b3 : Int) : evalFn E Go.Proofs.Tryz.f136 cod [D.agg [S.sc (Value.bool a1), S.ints IntKind.u64 a2, S.sc (Value.int IntKind.i64 a3)], D.agg [S.sc (Value.bool b1), S.ints IntKind.u64 b2, S.sc (Value.int IntKind.i64 b3)]] = gif (DyOk (a1, a2, a3)) (gif (DyOk (b1, b2, b3)) (DCmp.J3 a1 a2 a3 b1 b2 b3)) := (evalFn_J rfl nok _).trans (by kernel_rfl)
theorem J3_eq (b0 : Bool) (xs1 : List Int) (x2 : Int) (b3 : Bool) (xs4 : List Int) (x5 : Int) : J3 b0 xs1 x2 b3 xs4 x5 = gif (Wok (b0, xs1)) (gif (Wok (b3, xs4)) (bcase (decide (cmpZ (wv (b0, xs1)) (0 : Int) < cmpZ (wv (b3, xs4)) (0 : Int))) (some [D.s (S.sc (Value.int IntKind.i64 (-1 : Int))), D.s (S.sc (Value.int IntKind.i64 (0 : Int)))]) (bcase (decide (cmpZ (wv (b3, xs4)) (0 : Int) < cmpZ (wv (b0, xs1)) (0 : Int))) (some [D.s (S.sc (Value.int IntKind.i64 (1 : Int))), D.s (S.sc (Value.int IntKind.i64 (0 : Int)))]) (bcase (cmpZ (wv (b0, xs1)) (0 : Int) == (0 : Int)) (some [D.s (S.sc (Value.int IntKind.i64 (0 : Int))), D.s (S.sc (Value.int IntKind.i64 (0 : Int)))]) (gif ((DyOk (b0, xs1, x2) ∧ DyOk (b3, xs4, x5)) ∧ xs1.length ≠ (0 : Nat) ∧ xs4.length ≠ (0 : Nat)) (some [D.s (S.sc (Value.int IntKind.i64 (IntKind.i64.wrap (cmpZ (wv (b0, xs1)) (0 : Int) * cmpN (DAdd.addX (dv (b0, xs1, x2)) (dv (b3, xs4, x5))).natAbs (DAdd.addY (dv (b0, xs1, x2)) (dv (b3, xs4, x5))).natAbs)))), D.s (S.sc (Value.int IntKind.i64 (0 : Int)))])))))) := (cutAt_J rfl nok 3 _).trans (by kernel_rfl)
-- stuck: 0
end DCmp
namespace DCmp
noncomputable def sp (x y : Bool × List Int × Int) : Prop × List D := (DyOk x ∧ DyOk y, [.s (.sc (.int .i64 (cmpZ (DAdd.addX (dv x) (dv y)) (DAdd.addY (dv x) (dv y))))), .s (.sc (.int .i64 0))])
theorem sgn (z : Int) (P : Nat) (h : 0 < P) : (0 < z → 0 < z * (P : Int)) ∧ (z < 0 → z * (P : Int) < 0) ∧ (z = 0 → z * (P : Int) = 0) :=
  ⟨fun hz => Int.mul_pos hz (by omega), fun hz => Int.mul_neg_of_neg_of_pos hz (by omega), fun hz => by rw [hz, Int.zero_mul]⟩
theorem cz (z : Int) : (0 < z ∧ cmpZ z 0 = 1) ∨ (z < 0 ∧ cmpZ z 0 = -1) ∨ (z = 0 ∧ cmpZ z 0 = 0) := by
  unfold cmpZ
  by_cases h : z < 0
  · rw [if_pos h]; omega
  · rw [if_neg h]
    by_cases h' : 0 < z
    · rw [if_pos h']; omega
    · rw [if_neg h']; omega
theorem spec (x y : Bool × List Int × Int) (h : (sp x y).1) : evalFn E Tryz.f136 cod [(pG (.pair sB (.pair (sI .u64) (sN .i64)))).put x, (pG (.pair sB (.pair (sI .u64) (sN .i64)))).put y] = some (sp x y).2 := by
  obtain ⟨hx, hy⟩ := h
  refine (start x.1 x.2.1 x.2.2 y.1 y.2.1 y.2.2).trans ?_
  have wx := hx.wok
  have wy := hy.wok
  have nx := hx.nrm
  have ny := hy.nrm
  obtain ⟨b, a, e⟩ := x
  obtain ⟨c, d, f⟩ := y
  try dsimp only at *
  unfold sp
  try dsimp only
  have ax := wv_abs (b, a)
  have ay := wv_abs (c, d)
  try dsimp only at ax ay
  have zx := M6.len_zero nx
  have zy := M6.len_zero ny
  have sX : (0 < wv (b, a) → 0 < DAdd.addX (dv (b, a, e)) (dv (c, d, f))) ∧ (wv (b, a) < 0 → DAdd.addX (dv (b, a, e)) (dv (c, d, f)) < 0) ∧ (wv (b, a) = 0 → DAdd.addX (dv (b, a, e)) (dv (c, d, f)) = 0) := sgn _ _ (Nat.pow_pos (by decide))
  have sY : (0 < wv (c, d) → 0 < DAdd.addY (dv (b, a, e)) (dv (c, d, f))) ∧ (wv (c, d) < 0 → DAdd.addY (dv (b, a, e)) (dv (c, d, f)) < 0) ∧ (wv (c, d) = 0 → DAdd.addY (dv (b, a, e)) (dv (c, d, f)) = 0) := sgn _ _ (Nat.pow_pos (by decide))
  rw [gP hx, gP hy, J3_eq, gP wx, gP wy]
  have guard : wv (b, a) ≠ 0 → wv (c, d) ≠ 0 → (DyOk (b, a, e) ∧ DyOk (c, d, f)) ∧ a.length ≠ 0 ∧ d.length ≠ 0 := fun h1 h2 => ⟨⟨hx, hy⟩, fun h => h1 (by have := zx.1 h; omega), fun h => h2 (by have := zy.1 h; omega)⟩
  generalize DAdd.addX (dv (b, a, e)) (dv (c, d, f)) = X at *
  generalize DAdd.addY (dv (b, a, e)) (dv (c, d, f)) = Y at *
  have cXY : ∀ n : Int, cmpZ X Y = n → some [D.s (.sc (.int .i64 n)), D.s (.sc (.int .i64 0))] = some [D.s (.sc (.int .i64 (cmpZ X Y))), D.s (.sc (.int .i64 0))] := fun n h => by rw [h]
  rcases cz (wv (b, a)) with ⟨h1, c1⟩ | ⟨h1, c1⟩ | ⟨h1, c1⟩ <;> rcases cz (wv (c, d)) with ⟨h2, c2⟩ | ⟨h2, c2⟩ | ⟨h2, c2⟩ <;> rw [c1, c2]
  · rw [bD_neg (by omega), bD_neg (by omega), bE_neg (by omega), gP (guard (by omega) (by omega))]
    have := sX.1 h1
    have := sY.1 h2
    refine (congrArg (fun n => some [D.s (.sc (.int .i64 n)), D.s (.sc (.int .i64 0))]) ?_)
    unfold cmpN cmpZ
    split <;> split <;> (try split) <;> (try split) <;> first | rfl | omega
  · rw [bD_neg (by omega), bD_pos (by omega)]
    refine cXY _ ?_
    have := sX.1 h1
    have := sY.2.1 h2
    unfold cmpZ
    rw [if_neg (by omega), if_pos (by omega)]
  · rw [bD_neg (by omega), bD_pos (by omega)]
    refine cXY _ ?_
    have := sX.1 h1
    have := sY.2.2 h2
    unfold cmpZ
    rw [if_neg (by omega), if_pos (by omega)]
  · rw [bD_pos (by omega)]
    refine cXY _ ?_
    have := sX.2.1 h1
    have := sY.1 h2
    unfold cmpZ
    rw [if_pos (by omega)]
  · rw [bD_neg (by omega), bD_neg (by omega), bE_neg (by omega), gP (guard (by omega) (by omega))]
    have := sX.2.1 h1
    have := sY.2.1 h2
    refine (congrArg (fun n => some [D.s (.sc (.int .i64 n)), D.s (.sc (.int .i64 0))]) ?_)
    unfold cmpN cmpZ
    split <;> split <;> (try split) <;> (try split) <;> first | rfl | omega
  · rw [bD_pos (by omega)]
    refine cXY _ ?_
    have := sX.2.1 h1
    have := sY.2.2 h2
    unfold cmpZ
    rw [if_pos (by omega)]
  · rw [bD_pos (by omega)]
    refine cXY _ ?_
    have := sX.2.2 h1
    have := sY.1 h2
    unfold cmpZ
    rw [if_pos (by omega)]
  · rw [bD_neg (by omega), bD_pos (by omega)]
    refine cXY _ ?_
    have := sX.2.2 h1
    have := sY.2.1 h2
    unfold cmpZ
    rw [if_neg (by omega), if_pos (by omega)]
  · rw [bD_neg (by omega), bD_neg (by omega), bE_pos rfl]
    refine cXY _ ?_
    have := sX.2.2 h1
    have := sY.2.2 h2
    unfold cmpZ
    rw [if_neg (by omega), if_neg (by omega)]

noncomputable def orc : Orc := orc2 (pG (.pair sB (.pair (sI .u64) (sN .i64)))) (pG (.pair sB (.pair (sI .u64) (sN .i64)))) sp
theorem fnok : FnOk Tryz.prog E 136 Tryz.f136 cod := fnOk ty_ok mixed (callsOk_of _ rfl (orcs_cons DForm.ok (orcs_cons MSign.ok (orcs_cons DSize.ok orcs_nil))) (ext_ok)) Tryz.func136 rfl rfl rfl
theorem ok : OrcOk Tryz.prog base.glob 136 orc := fnok.ok2 rfl spec
end DCmp
end Go.Proofs.YtknafopmgaolmaaGreatDoor.W

/- Numbers m * 2^e reckoned on one grid: what sums, multiples, floors come to. No program is in sight. -/
namespace Go.Proofs.YtknafopmgaolmaaGreatDoor.M
open Go Go.Proofs.YtknafopmgaolmaaGreatDoor.AI Go.Proofs.YtknafopmgaolmaaGreatDoor.W

/-- 2^n. -/
def p2 (n : Int) : Int := ((2 ^ n.toNat : Nat) : Int)
theorem p2_pos (n : Int) : 0 < p2 n := by unfold p2; have := Nat.pow_pos (n := n.toNat) (show 0 < 2 by decide); omega
theorem p2_add {m n : Int} (hm : 0 ≤ m) (hn : 0 ≤ n) : p2 (m + n) = p2 m * p2 n := by
  unfold p2
  rw [Int.toNat_add hm hn, Nat.pow_add, Int.natCast_mul]
theorem p2_nat (k : Nat) : p2 (k : Int) = ((2 ^ k : Nat) : Int) := by unfold p2; rw [Int.toNat_natCast]
theorem p2_zero : p2 0 = 1 := rfl
theorem p2_one : p2 1 = 2 := rfl
theorem p2_mono {m n : Int} (h : m ≤ n) : p2 m ≤ p2 n := by
  unfold p2
  have := Nat.pow_le_pow_right (n := 2) (by decide) (show m.toNat ≤ n.toNat by omega)
  omega
theorem nrmD_zero (e : Int) : nrmD 0 e = (0, 0) := by unfold nrmD; rw [if_pos rfl]
theorem nrmD_one_zero {z e : Int} : (nrmD z e).1 = 0 ↔ z = 0 := by
  constructor
  · intro h
    unfold nrmD at h
    by_cases hz : z = 0
    · exact hz
    · rw [if_neg hz] at h
      dsimp only at h
      have hs := (tz_spec z.natAbs (by omega)).1
      have hd : ((2 ^ tz z.natAbs : Nat) : Int) ∣ z := Int.ofNat_dvd_left.2 (Nat.dvd_of_mod_eq_zero hs)
      have := Int.ediv_mul_cancel hd
      rw [h, Int.zero_mul] at this
      omega
  · rintro rfl
    rw [nrmD_zero]
theorem nrmD_val {z e : Int} (hz : z ≠ 0) : z = (nrmD z e).1 * p2 (tz z.natAbs : Nat) ∧ (nrmD z e).2 = e + (tz z.natAbs : Nat) := by
  unfold nrmD
  rw [if_neg hz]
  dsimp only
  have hs := (tz_spec z.natAbs (by omega)).1
  have hd : ((2 ^ tz z.natAbs : Nat) : Int) ∣ z := Int.ofNat_dvd_left.2 (Nat.dvd_of_mod_eq_zero hs)
  rw [p2_nat, Int.ediv_mul_cancel hd]
  exact ⟨rfl, rfl⟩
theorem nrmD_p2 (z e : Int) {k : Int} (hk : 0 ≤ k) : nrmD (z * p2 k) e = nrmD z (e + k) := by
  obtain ⟨n, rfl⟩ := Int.eq_ofNat_of_zero_le hk
  rw [p2_nat]
  by_cases hz : z = 0
  · subst hz
    rw [Int.zero_mul, nrmD_zero, nrmD_zero]
  · have hp : 0 < 2 ^ n := Nat.pow_pos (by decide)
    have hn : z * ((2 ^ n : Nat) : Int) ≠ 0 := Int.mul_ne_zero hz (by omega)
    have ht : tz (z * ((2 ^ n : Nat) : Int)).natAbs = n + tz z.natAbs := by
      rw [Int.natAbs_mul, Int.natAbs_natCast, Nat.mul_comm, tz_mul (by omega)]
    unfold nrmD
    rw [if_neg hz, if_neg hn, ht, Nat.pow_add, Int.natCast_mul, Int.mul_comm z, Int.mul_ediv_mul_of_pos _ _ (by omega)]
    congr 1
    omega
theorem nrmD_same {p : Int × Int} (h0 : p.1 = 0 → p.2 = 0) (h1 : p.1 ≠ 0 → p.1 % 2 = 1) : nrmD p.1 p.2 = p := by
  unfold nrmD
  by_cases hz : p.1 = 0
  · rw [if_pos hz]
    exact Prod.ext hz.symm (h0 hz).symm
  · rw [if_neg hz, tz_odd (by have := h1 hz; omega)]
    refine Prod.ext ?_ ?_
    · show p.1 / ((2 ^ 0 : Nat) : Int) = p.1
      rw [Nat.pow_zero]
      omega
    · show p.2 + ((0 : Nat) : Int) = p.2
      omega
theorem PIn.same {p : Int × Int} (h : PIn p) : nrmD p.1 p.2 = p := nrmD_same h.2.2.1 h.2.2.2
theorem nrmD_odd {z e : Int} (h : (nrmD z e).1 ≠ 0) : (nrmD z e).1 % 2 = 1 := by
  have hz : z ≠ 0 := fun hz => h (nrmD_one_zero.2 hz)
  have hs := (tz_spec z.natAbs (by omega))
  have hv := (nrmD_val (e := e) hz).1
  have ha : z.natAbs = (nrmD z e).1.natAbs * 2 ^ tz z.natAbs := by
    rw [p2_nat] at hv
    have := congrArg Int.natAbs hv
    rwa [Int.natAbs_mul, Int.natAbs_natCast] at this
  have : z.natAbs / 2 ^ tz z.natAbs = (nrmD z e).1.natAbs := by
    have hp : 0 < 2 ^ tz z.natAbs := Nat.pow_pos (by decide)
    generalize tz z.natAbs = t at *
    rw [ha, Nat.mul_div_cancel _ hp]
  rw [this] at hs
  omega
theorem nrmD_zero2 {z e : Int} (h : (nrmD z e).1 = 0) : (nrmD z e).2 = 0 := by rw [nrmD_one_zero.1 h, nrmD_zero]
/-- On the grid G the number is this. -/
theorem nrmD_grid {z e G : Int} (hz : z ≠ 0) (h : G ≤ e) : (nrmD z e).1 * p2 ((nrmD z e).2 - G) = z * p2 (e - G) := by
  obtain ⟨h1, h2⟩ := nrmD_val (e := e) hz
  rw [h2]
  have : e + ((tz z.natAbs : Nat) : Int) - G = ((tz z.natAbs : Nat) : Int) + (e - G) := by omega
  rw [this, p2_add (by omega) (by omega), ← Int.mul_assoc, ← h1]
theorem nrmD_grid0 {z e G : Int} (h : G ≤ e) : (nrmD z e).1 * p2 ((nrmD z e).2 - G) = z * p2 (e - G) := by
  by_cases hz : z = 0
  · subst hz
    rw [nrmD_zero, Int.zero_mul, Int.zero_mul]
  · exact nrmD_grid hz h
theorem nrmD_ge {z e : Int} (hz : z ≠ 0) : e ≤ (nrmD z e).2 := by have := (nrmD_val (e := e) hz).2; omega

theorem nrmD_neg (z e : Int) : nrmD (-z) e = (-(nrmD z e).1, (nrmD z e).2) := by
  by_cases hz : z = 0
  · subst hz
    rw [Int.neg_zero, nrmD_zero]
    rfl
  · have h := nrmD_val (e := e) hz
    unfold nrmD
    rw [if_neg hz, if_neg (by omega), Int.natAbs_neg]
    have hs := (tz_spec z.natAbs (by omega)).1
    have hd : ((2 ^ tz z.natAbs : Nat) : Int) ∣ z := Int.ofNat_dvd_left.2 (Nat.dvd_of_mod_eq_zero hs)
    rw [Int.neg_ediv_of_dvd hd]
theorem scD_nrm (z e n : Int) : DScale.scD (nrmD z e) n = nrmD z (e + n) := by
  unfold DScale.scD
  by_cases hz : z = 0
  · subst hz
    rw [nrmD_zero, nrmD_zero]
    rfl
  · rw [if_neg (fun h => hz (nrmD_one_zero.1 h))]
    unfold nrmD
    rw [if_neg hz, if_neg hz]
    dsimp only
    congr 1
    omega
theorem min_sub {p q : Int × Int} : DAdd.addE p q ≤ p.2 ∧ DAdd.addE p q ≤ q.2 := by unfold DAdd.addE; split <;> omega
/-- A sum on the grid G. -/
theorem addD_nrm {a E b F G : Int} (h1 : G ≤ E) (h2 : G ≤ F) : DAdd.addD (nrmD a E) (nrmD b F) = nrmD (a * p2 (E - G) + b * p2 (F - G)) G := by
  unfold DAdd.addD
  by_cases ha : a = 0
  · subst ha
    rw [if_pos (by rw [nrmD_zero]), Int.zero_mul, Int.zero_add, nrmD_p2 _ _ (by omega), show G + (F - G) = F by omega]
  · rw [if_neg (fun h => ha (nrmD_one_zero.1 h))]
    by_cases hb : b = 0
    · subst hb
      rw [if_pos (by rw [nrmD_zero]), Int.zero_mul, Int.add_zero, nrmD_p2 _ _ (by omega), show G + (E - G) = E by omega]
    · rw [if_neg (fun h => hb (nrmD_one_zero.1 h))]
      have ga := nrmD_grid (e := E) ha h1
      have gb := nrmD_grid (e := F) hb h2
      have la := nrmD_ge (e := E) ha
      have lb := nrmD_ge (e := F) hb
      have hm := min_sub (p := nrmD a E) (q := nrmD b F)
      have hg : G ≤ DAdd.addE (nrmD a E) (nrmD b F) := by unfold DAdd.addE; split <;> omega
      rw [← ga, ← gb]
      unfold DAdd.addX DAdd.addY
      generalize DAdd.addE (nrmD a E) (nrmD b F) = m at *
      generalize nrmD a E = p at *
      generalize nrmD b F = q at *
      have e1 : p2 (p.2 - G) = p2 (p.2 - m) * p2 (m - G) := by rw [← p2_add (by omega) (by omega)]; congr 1; omega
      have e2 : p2 (q.2 - G) = p2 (q.2 - m) * p2 (m - G) := by rw [← p2_add (by omega) (by omega)]; congr 1; omega
      rw [e1, e2, ← Int.mul_assoc, ← Int.mul_assoc, ← Int.add_mul, nrmD_p2 _ _ (by omega), show G + (m - G) = m by omega]
      rfl
/-- A floor. -/
theorem gridD_nrm {z e b : Int} (h : e ≤ b) : DGrid.gridD (nrmD z e) b = nrmD (z / p2 (b - e)) b := by
  unfold DGrid.gridD
  by_cases hz : z = 0
  · subst hz
    rw [nrmD_zero, if_pos (.inl rfl), Int.zero_ediv, nrmD_zero]
  · obtain ⟨h1, h2⟩ := nrmD_val (e := e) hz
    have hn : (nrmD z e).1 ≠ 0 := fun h => hz (nrmD_one_zero.1 h)
    by_cases hb : b ≤ (nrmD z e).2
    · rw [if_pos (.inr hb)]
      have g := nrmD_grid (e := e) hz (Int.le_refl e)
      rw [Int.sub_self, p2_zero, Int.mul_one] at g
      have e1 : p2 ((nrmD z e).2 - e) = p2 ((nrmD z e).2 - b) * p2 (b - e) := by rw [← p2_add (by omega) (by omega)]; congr 1; omega
      rw [e1, ← Int.mul_assoc] at g
      have hp := p2_pos (b - e)
      have : z / p2 (b - e) = (nrmD z e).1 * p2 ((nrmD z e).2 - b) := by
        generalize nrmD z e = p at *
        rw [← g, Int.mul_ediv_cancel _ (by omega)]
      rw [this, nrmD_p2 _ _ (by omega), show b + ((nrmD z e).2 - b) = (nrmD z e).2 by omega, nrmD_same nrmD_zero2 nrmD_odd]
    · rw [if_neg (by omega)]
      have e1 : p2 (b - e) = p2 (b - (nrmD z e).2) * p2 ((tz z.natAbs : Nat) : Int) := by rw [← p2_add (by omega) (by omega)]; congr 1; omega
      rw [e1]
      have hp := p2_pos ((tz z.natAbs : Nat) : Int)
      have : z / (p2 (b - (nrmD z e).2) * p2 ((tz z.natAbs : Nat) : Int)) = (nrmD z e).1 / p2 (b - (nrmD z e).2) := by
        generalize nrmD z e = p at *
        generalize p2 ((tz z.natAbs : Nat) : Int) = q at *
        rw [h1, Int.mul_ediv_mul_of_pos_left _ _ hp]
      rw [this]
      rfl
theorem cmpZ_mul {a b k : Int} (hk : 0 < k) : cmpZ (a * k) (b * k) = cmpZ a b := by
  unfold cmpZ
  by_cases h1 : a < b
  · rw [if_pos h1, if_pos (Int.mul_lt_mul_of_pos_right h1 hk)]
  · rw [if_neg h1, if_neg (fun h => h1 (Int.lt_of_mul_lt_mul_right h (by omega)))]
    by_cases h2 : b < a
    · rw [if_pos h2, if_pos (Int.mul_lt_mul_of_pos_right h2 hk)]
    · rw [if_neg h2, if_neg (fun h => h2 (Int.lt_of_mul_lt_mul_right h (by omega)))]
/-- A comparison on the grid G. -/
theorem cmpD_nrm {a E b F G : Int} (h1 : G ≤ E) (h2 : G ≤ F) : cmpZ (DAdd.addX (nrmD a E) (nrmD b F)) (DAdd.addY (nrmD a E) (nrmD b F)) = cmpZ (a * p2 (E - G)) (b * p2 (F - G)) := by
  have ga := nrmD_grid0 (z := a) h1
  have gb := nrmD_grid0 (z := b) h2
  have hm := min_sub (p := nrmD a E) (q := nrmD b F)
  rw [← ga, ← gb]
  by_cases ha : a = 0
  · subst ha
    rw [nrmD_zero] at *
    unfold DAdd.addX DAdd.addY
    rw [Int.zero_mul, Int.zero_mul]
    dsimp only at *
    have hp1 := p2_pos ((nrmD b F).2 - DAdd.addE (0, 0) (nrmD b F))
    have hp2 := p2_pos ((nrmD b F).2 - G)
    show cmpZ 0 ((nrmD b F).1 * p2 ((nrmD b F).2 - DAdd.addE (0, 0) (nrmD b F))) = _
    have e1 := cmpZ_mul (a := 0) (b := (nrmD b F).1) hp1
    have e2 := cmpZ_mul (a := 0) (b := (nrmD b F).1) hp2
    rw [Int.zero_mul] at e1 e2
    rw [e1, e2]
  · by_cases hb : b = 0
    · subst hb
      rw [nrmD_zero] at *
      unfold DAdd.addX DAdd.addY
      rw [Int.zero_mul, Int.zero_mul]
      have hp1 := p2_pos ((nrmD a E).2 - DAdd.addE (nrmD a E) (0, 0))
      have hp2 := p2_pos ((nrmD a E).2 - G)
      show cmpZ ((nrmD a E).1 * p2 ((nrmD a E).2 - DAdd.addE (nrmD a E) (0, 0))) 0 = _
      have e1 := cmpZ_mul (a := (nrmD a E).1) (b := 0) hp1
      have e2 := cmpZ_mul (a := (nrmD a E).1) (b := 0) hp2
      rw [Int.zero_mul] at e1 e2
      rw [e1, e2]
    · have la := nrmD_ge (e := E) ha
      have lb := nrmD_ge (e := F) hb
      have hg : G ≤ DAdd.addE (nrmD a E) (nrmD b F) := by unfold DAdd.addE; split <;> omega
      unfold DAdd.addX DAdd.addY
      generalize DAdd.addE (nrmD a E) (nrmD b F) = m at *
      generalize nrmD a E = p at *
      generalize nrmD b F = q at *
      have e1 : p2 (p.2 - G) = p2 (p.2 - m) * p2 (m - G) := by rw [← p2_add (by omega) (by omega)]; congr 1; omega
      have e2 : p2 (q.2 - G) = p2 (q.2 - m) * p2 (m - G) := by rw [← p2_add (by omega) (by omega)]; congr 1; omega
      rw [e1, e2, ← Int.mul_assoc, ← Int.mul_assoc, cmpZ_mul (p2_pos _)]
      rfl
/- What fits. -/
theorem inD_of {z e : Int} (h1 : -1048576 ≤ e) (h2 : e + ((bl z.natAbs : Nat) : Int) ≤ 1048577) : inD z e = true := by
  unfold inD
  by_cases hz : z = 0
  · rw [decide_eq_true hz, Bool.true_or]
  · have := tz_bl (n := z.natAbs) (by omega)
    rw [decide_eq_true (show -1048576 ≤ e + ((tz z.natAbs : Nat) : Int) by omega), decide_eq_true (show e + ((tz z.natAbs : Nat) : Int) ≤ 1048576 by omega), Bool.true_and, Bool.or_true]
theorem nrmD_abs (z e : Int) : (nrmD z e).1.natAbs ≤ z.natAbs := by
  unfold nrmD
  split
  · simp
  · exact div_abs (Nat.pow_pos (by decide))
theorem pin_nrm {z e : Int} (hi : inD z e = true) (hf : bl z.natAbs ≤ 524288) : PIn (nrmD z e) := by
  refine ⟨Nat.le_trans (bl_mono (nrmD_abs z e)) hf, ?_, nrmD_zero2, nrmD_odd⟩
  by_cases hz : z = 0
  · subst hz
    rw [nrmD_zero]
    exact ⟨by show (-1048576 : Int) ≤ 0; omega, by show (0 : Int) ≤ 1048576; omega⟩
  · rw [(nrmD_val hz).2]
    unfold inD at hi
    rw [decide_eq_false hz, Bool.false_or, Bool.and_eq_true] at hi
    exact ⟨of_decide_eq_true hi.1, of_decide_eq_true hi.2⟩
theorem abs_p2 (z n : Int) : (z * p2 n).natAbs = z.natAbs * 2 ^ n.toNat := by
  rw [Int.natAbs_mul]
  rfl
/-- A sum on the grid G is answered where all that comes is not too long. -/
theorem addOk_nrm {a E b F G : Int} (h1 : G ≤ E) (h2 : G ≤ F) (h3 : -1048576 ≤ G) (f1 : bl (a * p2 (E - G)).natAbs ≤ 524287) (f2 : bl (b * p2 (F - G)).natAbs ≤ 524287) (f3 : G ≤ 524288) :
    DAdd.addOk (nrmD a E) (nrmD b F) = true := by
  unfold DAdd.addOk
  by_cases ha : a = 0
  · rw [decide_eq_true (nrmD_one_zero.2 ha), Bool.true_or]
  · by_cases hb : b = 0
    · rw [decide_eq_true (nrmD_one_zero.2 hb), Bool.true_or, Bool.or_true]
    · have ga := nrmD_grid (e := E) ha h1
      have gb := nrmD_grid (e := F) hb h2
      have la := nrmD_ge (e := E) ha
      have lb := nrmD_ge (e := F) hb
      have hm := min_sub (p := nrmD a E) (q := nrmD b F)
      have hg : G ≤ DAdd.addE (nrmD a E) (nrmD b F) := by unfold DAdd.addE; split <;> omega
      rw [← ga] at f1
      rw [← gb] at f2
      have inner : ∀ (p : Int × Int) (m : Int), G ≤ m → m ≤ p.2 → bl (p.1 * p2 (p.2 - G)).natAbs ≤ 524287 → p.1 ≠ 0 → bl (p.1 * p2 (p.2 - m)).natAbs + (m - G).toNat ≤ 524287 := by
        intro p m h1 h2 h3 hp
        have e1 : p2 (p.2 - G) = p2 (m - G) * p2 (p.2 - m) := by rw [← p2_add (by omega) (by omega)]; congr 1; omega
        rw [e1, Int.mul_comm (p2 (m - G)), ← Int.mul_assoc, abs_p2, Nat.mul_comm, bl_mul (by
          have := p2_pos (p.2 - m)
          have := Int.mul_ne_zero hp (show p2 (p.2 - m) ≠ 0 by omega)
          omega)] at h3
        omega
      have i1 := inner _ _ hg hm.1 f1 (fun h => ha (nrmD_one_zero.1 h))
      have i2 := inner _ _ hg hm.2 f2 (fun h => hb (nrmD_one_zero.1 h))
      have x1 : bl (DAdd.addX (nrmD a E) (nrmD b F)).natAbs + (DAdd.addE (nrmD a E) (nrmD b F) - G).toNat ≤ 524287 := i1
      have x2 : bl (DAdd.addY (nrmD a E) (nrmD b F)).natAbs + (DAdd.addE (nrmD a E) (nrmD b F) - G).toNat ≤ 524287 := i2
      generalize DAdd.addX (nrmD a E) (nrmD b F) = X at *
      generalize DAdd.addY (nrmD a E) (nrmD b F) = Y at *
      have x3 : bl (X + Y).natAbs ≤ max (bl X.natAbs) (bl Y.natAbs) + 1 := Nat.le_trans (bl_mono (Int.natAbs_add_le _ _)) (bl_add_le _ _)
      have hi : inD (X + Y) (DAdd.addE (nrmD a E) (nrmD b F)) = true := inD_of (by omega) (by omega)
      have yes : ∀ n, bl n ≤ 524288 → fit n = true := fun n h => decide_eq_true h
      rw [decide_eq_false (fun h => ha (nrmD_one_zero.1 h)), decide_eq_false (fun h => hb (nrmD_one_zero.1 h)), hi, yes _ (by omega), yes _ (by omega), yes _ (by omega)]
      rfl
theorem gridOk_nrm {z e b : Int} (_ : e ≤ b) (hb0 : -1048576 ≤ b) (hb : b + ((bl (z / p2 (b - e)).natAbs : Nat) : Int) ≤ 1048577) : DGrid.gridOk (nrmD z e) b = true := by
  unfold DGrid.gridOk
  by_cases hc : (nrmD z e).1 = 0 ∨ b ≤ (nrmD z e).2
  · rw [decide_eq_true hc, Bool.true_or]
  · have hz : z ≠ 0 := fun h => hc (.inl (nrmD_one_zero.2 h))
    obtain ⟨h1, h2⟩ := nrmD_val (e := e) hz
    have e1 : p2 (b - e) = p2 (b - (nrmD z e).2) * p2 ((tz z.natAbs : Nat) : Int) := by rw [← p2_add (by omega) (by omega)]; congr 1; omega
    have hp := p2_pos ((tz z.natAbs : Nat) : Int)
    have : z / p2 (b - e) = (nrmD z e).1 / p2 (b - (nrmD z e).2) := by
      rw [e1]
      generalize nrmD z e = p at *
      generalize p2 ((tz z.natAbs : Nat) : Int) = q at *
      rw [h1, Int.mul_ediv_mul_of_pos_left _ _ hp]
    rw [this] at hb
    rw [decide_eq_false hc, Bool.false_or]
    exact inD_of hb0 hb
theorem scOk_nrm {z e n : Int} (h1 : -1048576 ≤ e + n) (h2 : e + n + ((bl z.natAbs : Nat) : Int) ≤ 1048577) : DScale.scOk (nrmD z e) n = true := by
  unfold DScale.scOk
  by_cases hz : z = 0
  · rw [decide_eq_true (nrmD_one_zero.2 hz), Bool.true_or]
  · have := tz_bl (n := z.natAbs) (by omega)
    have h3 := (nrmD_val (e := e) hz).2
    rw [decide_eq_false (fun h => hz (nrmD_one_zero.1 h)), decide_eq_true (by omega), decide_eq_true (by omega)]
    rfl
theorem bl_p2 {z : Int} {b k : Nat} {n : Int} (h : bl z.natAbs ≤ b) (hn : n ≤ k) : bl (z * p2 n).natAbs ≤ b + k := by
  rw [abs_p2]
  refine bl_le.2 ?_
  rw [Nat.pow_add]
  exact Nat.mul_lt_mul_of_lt_of_le (bl_le.1 h) (Nat.pow_le_pow_right (by decide) (by omega)) (Nat.pow_pos (by decide))
theorem bl_sum {x y : Int} {n : Nat} (h1 : bl x.natAbs ≤ n) (h2 : bl y.natAbs ≤ n) : bl (x + y).natAbs ≤ n + 1 := by
  have := Nat.le_trans (bl_mono (Int.natAbs_add_le x y)) (bl_add_le _ _)
  omega
theorem bl_div {z : Int} {n : Nat} (h : bl z.natAbs ≤ n) (k : Int) : bl (z / p2 k).natAbs ≤ n := Nat.le_trans (bl_mono (div_abs (Nat.pow_pos (by decide)))) h
theorem bl_neg {z : Int} {n : Nat} (h : bl z.natAbs ≤ n) : bl (-z).natAbs ≤ n := by rwa [Int.natAbs_neg]
theorem bl_one : bl (1 : Int).natAbs ≤ 1 := bl_le.2 (by decide)
/- A dyadic answered, by names. -/
theorem vl_dy {R : Type} (V : Int × Int) (k : Bool → List Int → Int → Option R) : (vlet (isNeg V.1) fun b => vlet (M6.dg V.1.natAbs) fun l => vlet V.2 fun e => k b l e) = k (isNeg V.1) (M6.dg V.1.natAbs) V.2 := rfl
theorem vl_z {R : Type} (z : Int) (k : Bool → List Int → Option R) : (vlet (isNeg z) fun b => vlet (dg z.natAbs) fun l => k b l) = k (isNeg z) (dg z.natAbs) := rfl
theorem vl {α R : Type} (x : α) (k : α → Option R) : vlet x k = k x := rfl
end Go.Proofs.YtknafopmgaolmaaGreatDoor.M

/- gnomon/binary.shapeOf -/
namespace Go.Proofs.YtknafopmgaolmaaGreatDoor.W
open Go Go.Proofs.YtknafopmgaolmaaGreatDoor.AI Go.Proofs.YtknafopmgaolmaaGreatDoor.M
namespace BShape
noncomputable def E : Env := { (base) with nt := 11, own := [], keep := fun k => (tlook [] k).getD [], cut := tlook [] }
noncomputable def cod : Code := (Go.Proofs.Tryz.f114.body).getD .skip
theorem nok : namesOk E cod = true := by kernel_rfl
theorem start (a : Int) : evalFn E Go.Proofs.Tryz.f114 cod [D.s (S.sc (Value.int IntKind.i64 a))] = bcase (a == (32 : Int)) (some [D.agg [S.sc (Value.int IntKind.i64 (32 : Int)), S.sc (Value.int IntKind.i64 (24 : Int)), S.sc (Value.int IntKind.i64 (-149 : Int)), S.sc (Value.int IntKind.u64 (2143289345 : Int))]]) (bcase (a == (64 : Int)) (some [D.agg [S.sc (Value.int IntKind.i64 (64 : Int)), S.sc (Value.int IntKind.i64 (53 : Int)), S.sc (Value.int IntKind.i64 (-1074 : Int)), S.sc (Value.int IntKind.u64 (9221120237041090561 : Int))]]) (some [D.agg [S.sc (Value.int IntKind.i64 (0 : Int)), S.sc (Value.int IntKind.i64 (0 : Int)), S.sc (Value.int IntKind.i64 (0 : Int)), S.sc (Value.int IntKind.u64 (0 : Int))]])) := (evalFn_J rfl nok _).trans (by kernel_rfl)
-- stuck: 0
end BShape
namespace BShape
/-- What a format is made of: width, bits of the mantissa, least exponent, the quiet pattern. -/
def shp (f : Int) : Int × Int × Int × Int := if f = 32 then (32, 24, -149, 2143289345) else if f = 64 then (64, 53, -1074, 9221120237041090561) else (0, 0, 0, 0)
def shC (s : Int × Int × Int × Int) : D := .agg [.sc (.int .i64 s.1), .sc (.int .i64 s.2.1), .sc (.int .i64 s.2.2.1), .sc (.int .u64 s.2.2.2)]
/-- One of the two formats. -/
def Two (s : Int × Int × Int × Int) : Prop := s = (32, 24, -149, 2143289345) ∨ s = (64, 53, -1074, 9221120237041090561)
theorem two32 : Two (32, 24, -149, 2143289345) := .inl rfl
theorem two64 : Two (64, 53, -1074, 9221120237041090561) := .inr rfl
noncomputable def sp (f : Int) : Prop × List D := (True, [shC (shp f)])
theorem spec (f : Int) (h : (sp f).1) : evalFn E Tryz.f114 cod [(pN .i64).put f] = some (sp f).2 := by
  refine (start f).trans ?_
  unfold sp shp
  try dsimp only
  by_cases h1 : f = 32
  · rw [bE_pos h1, if_pos h1]
    rfl
  · rw [bE_neg h1, if_neg h1]
    by_cases h2 : f = 64
    · rw [bE_pos h2, if_pos h2]
      rfl
    · rw [bE_neg h2, if_neg h2]
      rfl

noncomputable def orc : Orc := orc1 (pN .i64) sp
theorem fnok : FnOk Tryz.prog E 114 Tryz.f114 cod := fnOk ty_ok mixed (callsOk_of _ rfl orcs_nil (ext_ok)) Tryz.func114 rfl rfl rfl
theorem ok : OrcOk Tryz.prog base.glob 114 orc := fnok.ok1 rfl spec
end BShape
end Go.Proofs.YtknafopmgaolmaaGreatDoor.W

/- (gnomon/binary.shape).sign -/
namespace Go.Proofs.YtknafopmgaolmaaGreatDoor.W
open Go Go.Proofs.YtknafopmgaolmaaGreatDoor.AI Go.Proofs.YtknafopmgaolmaaGreatDoor.M
namespace BSign
noncomputable def E : Env := { (base) with nt := 7, own := [], keep := fun k => (tlook [] k).getD [], cut := tlook [] }
noncomputable def cod : Code := (Go.Proofs.Tryz.f205.body).getD .skip
theorem nok : namesOk E cod = true := by kernel_rfl
theorem start (a1 : Int) (a2 : Int) (a3 : Int) (a4 : Int) : evalFn E Go.Proofs.Tryz.f205 cod [D.agg [S.sc (Value.int IntKind.i64 a1), S.sc (Value.int IntKind.i64 a2), S.sc (Value.int IntKind.i64 a3), S.sc (Value.int IntKind.u64 a4)]] = if IntKind.i64.wrap (a1 - (1 : Int)) < (0 : Int) then none else some [D.s (S.sc (Value.int IntKind.u64 (IntKind.u64.wrap ((1 : Int) * (↑((2 : Nat) ^ min (IntKind.i64.wrap (a1 - (1 : Int))).toNat (64 : Nat)) : Int)))))] := (evalFn_J rfl nok _).trans (by kernel_rfl)
-- stuck: 0
end BSign
namespace BSign
def signV (s : Int × Int × Int × Int) : Int := if s.1 = 32 then 2147483648 else 9223372036854775808
noncomputable def sp (s : Int × Int × Int × Int) : Prop × List D := (BShape.Two s, [.s (.sc (.int .u64 (signV s)))])
theorem spec (s : Int × Int × Int × Int) (h : (sp s).1) : evalFn E Tryz.f205 cod [(pG (.pair (sN .i64) (.pair (sN .i64) (.pair (sN .i64) (sN .u64))))).put s] = some (sp s).2 := by
  refine (start s.1 s.2.1 s.2.2.1 s.2.2.2).trans ?_
  rcases h with rfl | rfl
  · rfl
  · rfl

noncomputable def orc : Orc := orc1 (pG (.pair (sN .i64) (.pair (sN .i64) (.pair (sN .i64) (sN .u64))))) sp
theorem fnok : FnOk Tryz.prog E 205 Tryz.f205 cod := fnOk ty_ok mixed (callsOk_of _ rfl orcs_nil (ext_ok)) Tryz.func205 rfl rfl rfl
theorem ok : OrcOk Tryz.prog base.glob 205 orc := fnok.ok1 rfl spec
end BSign
end Go.Proofs.YtknafopmgaolmaaGreatDoor.W

/- gnomon/binary.take -/
namespace Go.Proofs.YtknafopmgaolmaaGreatDoor.W
open Go Go.Proofs.YtknafopmgaolmaaGreatDoor.AI Go.Proofs.YtknafopmgaolmaaGreatDoor.M
namespace BTake
noncomputable def E : Env := { ({ base with C := callsOf [(114, BShape.orc), (205, BSign.orc)] }) with nt := 36, own := [], keep := fun k => (tlook [] k).getD [], cut := tlook [(6, [1, 4, 8])] }
noncomputable def cod : Code := (Go.Proofs.Tryz.f155.body).getD .skip
theorem nok : namesOk E cod = true := by kernel_rfl
noncomputable def J6 (x0 : Int) (x1 : Int) (x2 : Int) (x3 : Int) (x4 : Int) (x5 : Int) (x6 : Int) (x7 : Int) (x8 : Int) : Option (List D) := ctO E Go.Proofs.Tryz.f155 cod 6 [(A.v (V.one (L.s (S.sc (Value.int IntKind.u64 x0)))), none), (A.v (V.one (L.ptr (1 : Nat) (0 : Nat))), some { e := (131 : Nat), cont := Cont.cells [S.sc (Value.int IntKind.i64 x1), S.sc (Value.int IntKind.i64 x2), S.sc (Value.int IntKind.i64 x3), S.sc (Value.int IntKind.u64 x4)] }), (A.v (V.one (L.ptr (2 : Nat) (0 : Nat))), some { e := (131 : Nat), cont := Cont.cells [S.sc (Value.int IntKind.i64 x5), S.sc (Value.int IntKind.i64 x6), S.sc (Value.int IntKind.i64 x7), S.sc (Value.int IntKind.u64 x8)] })]
theorem start (a : Int) (b : Int) : evalFn E Go.Proofs.Tryz.f155 cod [D.s (S.sc (Value.int IntKind.i64 a)), D.s (S.sc (Value.int IntKind.u64 b))] = gif True (bcase ((BShape.shp a).fst == (0 : Int) && ((BShape.shp a).snd.fst == (0 : Int) && ((BShape.shp a).snd.snd.fst == (0 : Int) && ((BShape.shp a).snd.snd.snd == (0 : Int) && true)))) (some [D.agg [S.sc (Value.int IntKind.i64 (BShape.shp a).fst), S.sc (Value.int IntKind.i64 (BShape.shp a).snd.fst), S.sc (Value.int IntKind.i64 (BShape.shp a).snd.snd.fst), S.sc (Value.int IntKind.u64 (BShape.shp a).snd.snd.snd)], D.s (S.sc (Value.bool false)), D.s (S.sc (Value.int IntKind.u64 (0 : Int))), D.s (S.sc (Value.int IntKind.i64 (1 : Int)))]) (bcase (decide ((BShape.shp a).fst < (64 : Int))) (if (BShape.shp a).fst < (0 : Int) then none else bcase (b / (↑((2 : Nat) ^ min (BShape.shp a).fst.toNat (64 : Nat)) : Int) != (0 : Int)) (some [D.agg [S.sc (Value.int IntKind.i64 (BShape.shp a).fst), S.sc (Value.int IntKind.i64 (BShape.shp a).snd.fst), S.sc (Value.int IntKind.i64 (BShape.shp a).snd.snd.fst), S.sc (Value.int IntKind.u64 (BShape.shp a).snd.snd.snd)], D.s (S.sc (Value.bool false)), D.s (S.sc (Value.int IntKind.u64 (0 : Int))), D.s (S.sc (Value.int IntKind.i64 (2 : Int)))]) (BTake.J6 b (0 : Int) (0 : Int) (0 : Int) (0 : Int) (BShape.shp a).fst (BShape.shp a).snd.fst (BShape.shp a).snd.snd.fst (BShape.shp a).snd.snd.snd)) (BTake.J6 b (0 : Int) (0 : Int) (0 : Int) (0 : Int) (BShape.shp a).fst (BShape.shp a).snd.fst (BShape.shp a).snd.snd.fst (BShape.shp a).snd.snd.snd))) := (evalFn_J rfl nok _).trans (by kernel_rfl)
theorem J6_eq (x0 : Int) (x1 : Int) (x2 : Int) (x3 : Int) (x4 : Int) (x5 : Int) (x6 : Int) (x7 : Int) (x8 : Int) : J6 x0 x1 x2 x3 x4 x5 x6 x7 x8 = gif (BShape.Two (x5, x6, x7, x8)) (gif (BShape.Two (x5, x6, x7, x8)) (some [D.agg [S.sc (Value.int IntKind.i64 x5), S.sc (Value.int IntKind.i64 x6), S.sc (Value.int IntKind.i64 x7), S.sc (Value.int IntKind.u64 x8)], D.s (S.sc (Value.bool (bitsI BinOp.and IntKind.u64 x0 (BSign.signV (x5, x6, x7, x8)) != (0 : Int)))), D.s (S.sc (Value.int IntKind.u64 (bitsI BinOp.andNot IntKind.u64 x0 (BSign.signV (x5, x6, x7, x8))))), D.s (S.sc (Value.int IntKind.i64 (0 : Int)))])) := (cutAt_J rfl nok 6 _).trans (by kernel_rfl)
-- stuck: 0
end BTake
namespace BTake
theorem andNot64 {a b : Int} (ha : 0 ≤ a) (ha' : a < 18446744073709551616) (hb : 0 ≤ b) (hb' : b < 18446744073709551616) : bitsI .andNot .u64 a b = ((a.toNat &&& (2 ^ 64 - (b.toNat + 1)) : Nat) : Int) := by
  obtain ⟨n, rfl⟩ := Int.eq_ofNat_of_zero_le ha
  obtain ⟨m, rfl⟩ := Int.eq_ofNat_of_zero_le hb
  rw [bitsI_eq]
  unfold bitsI0
  simp only
  have e : (BitVec.ofInt IntKind.u64.bits (n : Int) &&& ~~~ BitVec.ofInt IntKind.u64.bits (m : Int)).toNat = n &&& (2 ^ 64 - (m + 1)) := by
    show (BitVec.ofInt 64 (n : Int) &&& ~~~ BitVec.ofInt 64 (m : Int)).toNat = _
    rw [BitVec.toNat_and, BitVec.toNat_not]
    have e1 : (BitVec.ofInt 64 (n : Int)).toNat = n := by simp; omega
    have e2 : (BitVec.ofInt 64 (m : Int)).toNat = m := by simp; omega
    rw [e1, e2]
    congr 1
    omega
  have hle : n &&& (2 ^ 64 - (m + 1)) ≤ n := Nat.and_le_left
  rw [e, wrap_u64 (by omega) (by omega)]
  rfl
theorem clear_top {n k : Nat} (hk : k < 64) (h : n < 2 ^ (k + 1)) : n &&& (2 ^ 64 - (2 ^ k + 1)) = n % 2 ^ k := by
  refine Nat.eq_of_testBit_eq fun i => ?_
  have hp : 2 ^ k < 2 ^ 64 := Nat.pow_lt_pow_right (by decide) hk
  rw [Nat.testBit_and, Nat.testBit_two_pow_sub_succ hp, Nat.testBit_mod_two_pow, Nat.testBit_two_pow]
  by_cases h1 : i < k
  · have : ¬ k = i := by omega
    have h64 : i < 64 := by omega
    simp [h1, this, h64]
  · by_cases h2 : i = k
    · subst h2; simp
    · have : n < 2 ^ i := Nat.lt_of_lt_of_le h (Nat.pow_le_pow_right (by decide) (by omega))
      rw [Nat.testBit_lt_two_pow this]
      simp
theorem top_bit {n k : Nat} (h : n < 2 ^ (k + 1)) : (n &&& 2 ^ k) = if 2 ^ k ≤ n then 2 ^ k else 0 := by
  refine Nat.eq_of_testBit_eq fun i => ?_
  rw [Nat.testBit_and, Nat.testBit_two_pow]
  by_cases h1 : 2 ^ k ≤ n
  · have ht : n.testBit k = true := by
      rw [Nat.testBit_eq_decide_div_mod_eq]
      have := Nat.div_eq_of_lt_le (k := 1) (show 1 * 2 ^ k ≤ n by omega) (show n < (1 + 1) * 2 ^ k by rw [Nat.pow_succ] at h; omega)
      rw [this]
      rfl
    rw [if_pos h1, Nat.testBit_two_pow]
    by_cases hi : k = i
    · subst hi; simp [ht]
    · simp [hi]
  · rw [if_neg h1, Nat.zero_testBit]
    by_cases hi : k = i
    · subst hi; rw [Nat.testBit_lt_two_pow (by omega)]; rfl
    · simp [hi]
/-- Is it a pattern of this format? -/
def patB (f b : Int) : Bool := decide (f = 64) || decide (b < 4294967296)
noncomputable def sp (f b : Int) : Prop × List D := ((f = 32 ∨ f = 64) ∧ 0 ≤ b ∧ b < 18446744073709551616, [BShape.shC (BShape.shp f), .s (.sc (.bool (patB f b && decide (BSign.signV (BShape.shp f) ≤ b)))), .s (.sc (.int .u64 (bif patB f b then b % BSign.signV (BShape.shp f) else 0))), .s (.sc (.int .i64 (bif patB f b then 0 else 2)))])
theorem spec (f b : Int) (h : (sp f b).1) : evalFn E Tryz.f155 cod [(pN .i64).put f, (pN .u64).put b] = some (sp f b).2 := by
  obtain ⟨hf, h0, h1⟩ := h
  obtain ⟨n, rfl⟩ := Int.eq_ofNat_of_zero_le h0
  refine (start f n).trans ((gP trivial).trans ?_)
  unfold sp
  try dsimp only
  rcases hf with rfl | rfl
  · rw [show BShape.shp 32 = (32, 24, -149, 2143289345) from rfl]
    try dsimp only
    rw [bB_neg (by decide), bD_pos (by decide), if_neg (by decide), show min (32 : Int).toNat 64 = 32 from rfl, show BSign.signV (32, 24, -149, 2143289345) = 2147483648 from rfl]
    by_cases hc : (n : Int) < 4294967296
    · have hp : patB 32 n = true := by unfold patB; rw [decide_eq_true hc, Bool.or_true]
      have a1 : bitsI .and .u64 (n : Int) 2147483648 = if (2147483648 : Int) ≤ n then 2147483648 else 0 := by
        rw [and64 (by omega) (by omega) (by omega) (by omega), Int.toNat_natCast]
        have := top_bit (n := n) (k := 31) (by omega)
        rw [show (2147483648 : Int).toNat = 2 ^ 31 from rfl, this]
        split <;> split <;> first | rfl | omega
      have a2 : bitsI .andNot .u64 (n : Int) 2147483648 = (n : Int) % 2147483648 := by
        rw [andNot64 (by omega) (by omega) (by omega) (by omega), Int.toNat_natCast, show (2147483648 : Int).toNat = 2 ^ 31 from rfl, clear_top (by omega) (by omega)]
        omega
      rw [bN_neg (by omega), J6_eq, gP BShape.two32, gP BShape.two32, show BSign.signV (32, 24, -149, 2143289345) = 2147483648 from rfl, a1, a2, hp]
      by_cases hd : (2147483648 : Int) ≤ n
      · rw [if_pos hd, decide_eq_true hd]; rfl
      · rw [if_neg hd, decide_eq_false hd]; rfl
    · have hp : patB 32 n = false := by unfold patB; rw [decide_eq_false hc]; rfl
      rw [bN_pos (by omega), hp]
      rfl
  · rw [show BShape.shp 64 = (64, 53, -1074, 9221120237041090561) from rfl]
    try dsimp only
    have hp : patB 64 n = true := rfl
    have a1 : bitsI .and .u64 (n : Int) 9223372036854775808 = if (9223372036854775808 : Int) ≤ n then 9223372036854775808 else 0 := by
      rw [and64 (by omega) (by omega) (by omega) (by omega), Int.toNat_natCast]
      have := top_bit (n := n) (k := 63) (by omega)
      rw [show (9223372036854775808 : Int).toNat = 2 ^ 63 from rfl, this]
      split <;> split <;> first | rfl | omega
    have a2 : bitsI .andNot .u64 (n : Int) 9223372036854775808 = (n : Int) % 9223372036854775808 := by
      rw [andNot64 (by omega) (by omega) (by omega) (by omega), Int.toNat_natCast, show (9223372036854775808 : Int).toNat = 2 ^ 63 from rfl, clear_top (by omega) (by omega)]
      omega
    rw [bB_neg (by decide), bD_neg (by decide), J6_eq, gP BShape.two64, gP BShape.two64, show BSign.signV (64, 53, -1074, 9221120237041090561) = 9223372036854775808 from rfl, a1, a2, hp]
    by_cases hd : (9223372036854775808 : Int) ≤ n
    · rw [if_pos hd, decide_eq_true hd]; rfl
    · rw [if_neg hd, decide_eq_false hd]; rfl

noncomputable def orc : Orc := orc2 (pN .i64) (pN .u64) sp
theorem fnok : FnOk Tryz.prog E 155 Tryz.f155 cod := fnOk ty_ok mixed (callsOk_of _ rfl (orcs_cons BShape.ok (orcs_cons BSign.ok orcs_nil)) (ext_ok)) Tryz.func155 rfl rfl rfl
theorem ok : OrcOk Tryz.prog base.glob 155 orc := fnok.ok2 rfl spec
end BTake
end Go.Proofs.YtknafopmgaolmaaGreatDoor.W

/- (gnomon/binary.shape).hidden -/
namespace Go.Proofs.YtknafopmgaolmaaGreatDoor.W
open Go Go.Proofs.YtknafopmgaolmaaGreatDoor.AI Go.Proofs.YtknafopmgaolmaaGreatDoor.M
namespace BHidden
noncomputable def E : Env := { (base) with nt := 7, own := [], keep := fun k => (tlook [] k).getD [], cut := tlook [] }
noncomputable def cod : Code := (Go.Proofs.Tryz.f157.body).getD .skip
theorem nok : namesOk E cod = true := by kernel_rfl
theorem start (a1 : Int) (a2 : Int) (a3 : Int) (a4 : Int) : evalFn E Go.Proofs.Tryz.f157 cod [D.agg [S.sc (Value.int IntKind.i64 a1), S.sc (Value.int IntKind.i64 a2), S.sc (Value.int IntKind.i64 a3), S.sc (Value.int IntKind.u64 a4)]] = if IntKind.i64.wrap (a2 - (1 : Int)) < (0 : Int) then none else some [D.s (S.sc (Value.int IntKind.u64 (IntKind.u64.wrap ((1 : Int) * (↑((2 : Nat) ^ min (IntKind.i64.wrap (a2 - (1 : Int))).toNat (64 : Nat)) : Int)))))] := (evalFn_J rfl nok _).trans (by kernel_rfl)
-- stuck: 0
end BHidden
namespace BHidden
def hidV (s : Int × Int × Int × Int) : Int := if s.1 = 32 then 8388608 else 4503599627370496
noncomputable def sp (s : Int × Int × Int × Int) : Prop × List D := (BShape.Two s, [.s (.sc (.int .u64 (hidV s)))])
theorem spec (s : Int × Int × Int × Int) (h : (sp s).1) : evalFn E Tryz.f157 cod [(pG (.pair (sN .i64) (.pair (sN .i64) (.pair (sN .i64) (sN .u64))))).put s] = some (sp s).2 := by
  refine (start s.1 s.2.1 s.2.2.1 s.2.2.2).trans ?_
  rcases h with rfl | rfl
  · rfl
  · rfl

noncomputable def orc : Orc := orc1 (pG (.pair (sN .i64) (.pair (sN .i64) (.pair (sN .i64) (sN .u64))))) sp
theorem fnok : FnOk Tryz.prog E 157 Tryz.f157 cod := fnOk ty_ok mixed (callsOk_of _ rfl orcs_nil (ext_ok)) Tryz.func157 rfl rfl rfl
theorem ok : OrcOk Tryz.prog base.glob 157 orc := fnok.ok1 rfl spec
end BHidden
end Go.Proofs.YtknafopmgaolmaaGreatDoor.W

/- (gnomon/binary.shape).inf -/
namespace Go.Proofs.YtknafopmgaolmaaGreatDoor.W
open Go Go.Proofs.YtknafopmgaolmaaGreatDoor.AI Go.Proofs.YtknafopmgaolmaaGreatDoor.M
namespace BInf
noncomputable def E : Env := { ({ base with C := callsOf [(205, BSign.orc), (157, BHidden.orc)] }) with nt := 8, own := [], keep := fun k => (tlook [] k).getD [], cut := tlook [] }
noncomputable def cod : Code := (Go.Proofs.Tryz.f156.body).getD .skip
theorem nok : namesOk E cod = true := by kernel_rfl
theorem start (a1 : Int) (a2 : Int) (a3 : Int) (a4 : Int) : evalFn E Go.Proofs.Tryz.f156 cod [D.agg [S.sc (Value.int IntKind.i64 a1), S.sc (Value.int IntKind.i64 a2), S.sc (Value.int IntKind.i64 a3), S.sc (Value.int IntKind.u64 a4)]] = gif (BShape.Two (a1, a2, a3, a4)) (gif (BShape.Two (a1, a2, a3, a4)) (some [D.s (S.sc (Value.int IntKind.u64 (IntKind.u64.wrap (BSign.signV (a1, a2, a3, a4) - BHidden.hidV (a1, a2, a3, a4)))))])) := (evalFn_J rfl nok _).trans (by kernel_rfl)
-- stuck: 0
end BInf
namespace BInf
def infV (s : Int × Int × Int × Int) : Int := if s.1 = 32 then 2139095040 else 9218868437227405312
noncomputable def sp (s : Int × Int × Int × Int) : Prop × List D := (BShape.Two s, [.s (.sc (.int .u64 (infV s)))])
theorem spec (s : Int × Int × Int × Int) (h : (sp s).1) : evalFn E Tryz.f156 cod [(pG (.pair (sN .i64) (.pair (sN .i64) (.pair (sN .i64) (sN .u64))))).put s] = some (sp s).2 := by
  refine (start s.1 s.2.1 s.2.2.1 s.2.2.2).trans ((gP h).trans ((gP h).trans ?_))
  rcases h with rfl | rfl
  · rfl
  · rfl

noncomputable def orc : Orc := orc1 (pG (.pair (sN .i64) (.pair (sN .i64) (.pair (sN .i64) (sN .u64))))) sp
theorem fnok : FnOk Tryz.prog E 156 Tryz.f156 cod := fnOk ty_ok mixed (callsOk_of _ rfl (orcs_cons BSign.ok (orcs_cons BHidden.ok orcs_nil)) (ext_ok)) Tryz.func156 rfl rfl rfl
theorem ok : OrcOk Tryz.prog base.glob 156 orc := fnok.ok1 rfl spec
end BInf
end Go.Proofs.YtknafopmgaolmaaGreatDoor.W

/- gnomon/binary.finite -/
namespace Go.Proofs.YtknafopmgaolmaaGreatDoor.W
open Go Go.Proofs.YtknafopmgaolmaaGreatDoor.AI Go.Proofs.YtknafopmgaolmaaGreatDoor.M
namespace BFinite
noncomputable def E : Env := { ({ base with C := callsOf [(155, BTake.orc), (156, BInf.orc)] }) with nt := 33, own := [15], keep := fun k => (tlook [] k).getD [], cut := tlook [] }
noncomputable def cod : Code := (Go.Proofs.Tryz.f99.body).getD .skip
theorem nok : namesOk E cod = true := by kernel_rfl
theorem start (a : Int) (b : Int) : evalFn E Go.Proofs.Tryz.f99 cod [D.s (S.sc (Value.int IntKind.i64 a)), D.s (S.sc (Value.int IntKind.u64 b))] = gif ((a = (32 : Int) ∨ a = (64 : Int)) ∧ (0 : Int) ≤ b ∧ b < (18446744073709551616 : Int)) (bcase ((bif BTake.patB a b then (0 : Int) else (2 : Int)) == (0 : Int)) (gif (BShape.Two ((BShape.shp a).fst, (BShape.shp a).snd.fst, (BShape.shp a).snd.snd.fst, (BShape.shp a).snd.snd.snd)) (bcase (decide (BInf.infV ((BShape.shp a).fst, (BShape.shp a).snd.fst, (BShape.shp a).snd.snd.fst, (BShape.shp a).snd.snd.snd) ≤ bif BTake.patB a b then b % BSign.signV (BShape.shp a) else (0 : Int))) (some [D.agg [S.sc (Value.int IntKind.i64 (BShape.shp a).fst), S.sc (Value.int IntKind.i64 (BShape.shp a).snd.fst), S.sc (Value.int IntKind.i64 (BShape.shp a).snd.snd.fst), S.sc (Value.int IntKind.u64 (BShape.shp a).snd.snd.snd)], D.s (S.sc (Value.bool false)), D.s (S.sc (Value.int IntKind.u64 (0 : Int))), D.s (S.sc (Value.int IntKind.i64 (6 : Int)))]) (some [D.agg [S.sc (Value.int IntKind.i64 (BShape.shp a).fst), S.sc (Value.int IntKind.i64 (BShape.shp a).snd.fst), S.sc (Value.int IntKind.i64 (BShape.shp a).snd.snd.fst), S.sc (Value.int IntKind.u64 (BShape.shp a).snd.snd.snd)], D.s (S.sc (Value.bool (BTake.patB a b && decide (BSign.signV (BShape.shp a) ≤ b)))), D.s (S.sc (Value.int IntKind.u64 (bif BTake.patB a b then b % BSign.signV (BShape.shp a) else (0 : Int)))), D.s (S.sc (Value.int IntKind.i64 (bif BTake.patB a b then (0 : Int) else (2 : Int))))]))) (some [D.agg [S.sc (Value.int IntKind.i64 (BShape.shp a).fst), S.sc (Value.int IntKind.i64 (BShape.shp a).snd.fst), S.sc (Value.int IntKind.i64 (BShape.shp a).snd.snd.fst), S.sc (Value.int IntKind.u64 (BShape.shp a).snd.snd.snd)], D.s (S.sc (Value.bool (BTake.patB a b && decide (BSign.signV (BShape.shp a) ≤ b)))), D.s (S.sc (Value.int IntKind.u64 (bif BTake.patB a b then b % BSign.signV (BShape.shp a) else (0 : Int)))), D.s (S.sc (Value.int IntKind.i64 (bif BTake.patB a b then (0 : Int) else (2 : Int))))])) := (evalFn_J rfl nok _).trans (by kernel_rfl)
-- stuck: 0
end BFinite
namespace BFinite
/-- Is it a finite pattern's size? -/
def finB (f b : Int) : Bool := decide (b % BSign.signV (BShape.shp f) < BInf.infV (BShape.shp f))
theorem two_shp {f : Int} (h : f = 32 ∨ f = 64) : BShape.Two (BShape.shp f) := by
  rcases h with rfl | rfl
  · exact .inl rfl
  · exact .inr rfl
noncomputable def sp (f b : Int) : Prop × List D := ((f = 32 ∨ f = 64) ∧ 0 ≤ b ∧ b < 18446744073709551616, [BShape.shC (BShape.shp f), .s (.sc (.bool (BTake.patB f b && (finB f b && decide (BSign.signV (BShape.shp f) ≤ b))))), .s (.sc (.int .u64 (bif BTake.patB f b && finB f b then b % BSign.signV (BShape.shp f) else 0))), .s (.sc (.int .i64 (bif BTake.patB f b then (bif finB f b then 0 else 6) else 2)))])
theorem spec (f b : Int) (h : (sp f b).1) : evalFn E Tryz.f99 cod [(pN .i64).put f, (pN .u64).put b] = some (sp f b).2 := by
  refine (start f b).trans ((gP h).trans ?_)
  unfold sp finB
  try dsimp only
  have ht := two_shp h.1
  generalize BShape.shp f = s at *
  obtain ⟨s1, s2, s3, s4⟩ := s
  cases hp : BTake.patB f b with
  | false => rfl
  | true =>
    try dsimp only [cond_true, Bool.true_and]
    rw [bE_pos rfl, gP ht]
    by_cases hc : b % BSign.signV (s1, s2, s3, s4) < BInf.infV (s1, s2, s3, s4)
    · rw [bD_neg (by omega), decide_eq_true hc]
      rfl
    · rw [bD_pos (by omega), decide_eq_false hc]
      rfl

noncomputable def orc : Orc := orc2 (pN .i64) (pN .u64) sp
theorem fnok : FnOk Tryz.prog E 99 Tryz.f99 cod := fnOk ty_ok mixed (callsOk_of _ rfl (orcs_cons BTake.ok (orcs_cons BInf.ok orcs_nil)) (ext_ok)) Tryz.func99 rfl rfl rfl
theorem ok : OrcOk Tryz.prog base.glob 99 orc := fnok.ok2 rfl spec
end BFinite
end Go.Proofs.YtknafopmgaolmaaGreatDoor.W

/- (gnomon/binary.shape).parts -/
namespace Go.Proofs.YtknafopmgaolmaaGreatDoor.W
open Go Go.Proofs.YtknafopmgaolmaaGreatDoor.AI Go.Proofs.YtknafopmgaolmaaGreatDoor.M
namespace BParts
noncomputable def E : Env := { ({ base with C := callsOf [(157, BHidden.orc)] }) with nt := 31, own := [], keep := fun k => (tlook [] k).getD [], cut := tlook [] }
noncomputable def cod : Code := (Go.Proofs.Tryz.f100.body).getD .skip
theorem nok : namesOk E cod = true := by kernel_rfl
theorem start (a1 : Int) (a2 : Int) (a3 : Int) (a4 : Int) (b : Int) : evalFn E Go.Proofs.Tryz.f100 cod [D.agg [S.sc (Value.int IntKind.i64 a1), S.sc (Value.int IntKind.i64 a2), S.sc (Value.int IntKind.i64 a3), S.sc (Value.int IntKind.u64 a4)], D.s (S.sc (Value.int IntKind.u64 b))] = gif (BShape.Two (a1, a2, a3, a4)) (if BHidden.hidV (a1, a2, a3, a4) = (0 : Int) then none else gif (BShape.Two (a1, a2, a3, a4)) (if BHidden.hidV (a1, a2, a3, a4) = (0 : Int) then none else bcase (IntKind.u64.wrap (b.tdiv (BHidden.hidV (a1, a2, a3, a4))) == (0 : Int)) (some [D.s (S.sc (Value.int IntKind.u64 (b.tmod (BHidden.hidV (a1, a2, a3, a4))))), D.s (S.sc (Value.int IntKind.i64 a3))]) (gif (BShape.Two (a1, a2, a3, a4)) (some [D.s (S.sc (Value.int IntKind.u64 (IntKind.u64.wrap (BHidden.hidV (a1, a2, a3, a4) + b.tmod (BHidden.hidV (a1, a2, a3, a4)))))), D.s (S.sc (Value.int IntKind.i64 (IntKind.i64.wrap (IntKind.i64.wrap (a3 + IntKind.i64.wrap (IntKind.u64.wrap (b.tdiv (BHidden.hidV (a1, a2, a3, a4))))) - (1 : Int)))))])))) := (evalFn_J rfl nok _).trans (by kernel_rfl)
-- stuck: 0
end BParts
namespace BParts
/-- Mantissa and exponent of a size. -/
def manV (s : Int × Int × Int × Int) (n : Int) : Int := if n / BHidden.hidV s = 0 then n % BHidden.hidV s else BHidden.hidV s + n % BHidden.hidV s
def expV (s : Int × Int × Int × Int) (n : Int) : Int := if n / BHidden.hidV s = 0 then s.2.2.1 else s.2.2.1 + n / BHidden.hidV s - 1
noncomputable def sp (s : Int × Int × Int × Int) (n : Int) : Prop × List D := (BShape.Two s ∧ 0 ≤ n ∧ n < 9223372036854775808, [.s (.sc (.int .u64 (manV s n))), .s (.sc (.int .i64 (expV s n)))])
theorem spec (s : Int × Int × Int × Int) (n : Int) (h : (sp s n).1) : evalFn E Tryz.f100 cod [(pG (.pair (sN .i64) (.pair (sN .i64) (.pair (sN .i64) (sN .u64))))).put s, (pN .u64).put n] = some (sp s n).2 := by
  obtain ⟨ht, h0, h1⟩ := h
  obtain ⟨s1, s2, s3, s4⟩ := s
  refine (start s1 s2 s3 s4 n).trans ?_
  have hh : BHidden.hidV (s1, s2, s3, s4) = 8388608 ∨ BHidden.hidV (s1, s2, s3, s4) = 4503599627370496 := by
    unfold BHidden.hidV
    split <;> simp
  have hs : -1074 ≤ s3 ∧ s3 ≤ 0 := by rcases ht with ht | ht <;> (cases ht; omega)
  unfold sp manV expV
  try dsimp only
  rw [gP ht, gP ht, gP ht]
  generalize BHidden.hidV (s1, s2, s3, s4) = d at *
  have t1 : n.tdiv d = n / d := Int.tdiv_eq_ediv_of_nonneg h0
  have t2 : n.tmod d = n % d := Int.tmod_eq_emod_of_nonneg h0
  have b1 : 0 ≤ n / d ∧ n / d < 9223372036854775808 := by rcases hh with rfl | rfl <;> omega
  have b2 : 0 ≤ n % d ∧ n % d < 4503599627370496 := by rcases hh with rfl | rfl <;> omega
  rw [t1, t2, if_neg (by omega), if_neg (by omega), wrap_u64 (n := n / d) (by omega) (by omega)]
  by_cases hz : n / d = 0
  · rw [bE_pos hz, if_pos hz, if_pos hz]
  · rw [bE_neg hz, if_neg hz, if_neg hz, wrap_u64 (by omega) (by omega), wrap_i64 (n := n / d) (by omega) (by omega), wrap_i64 (n := s3 + n / d) (by omega) (by omega), wrap_i64 (by omega) (by omega)]

noncomputable def orc : Orc := orc2 (pG (.pair (sN .i64) (.pair (sN .i64) (.pair (sN .i64) (sN .u64))))) (pN .u64) sp
theorem fnok : FnOk Tryz.prog E 100 Tryz.f100 cod := fnOk ty_ok mixed (callsOk_of _ rfl (orcs_cons BHidden.ok orcs_nil) (ext_ok)) Tryz.func100 rfl rfl rfl
theorem ok : OrcOk Tryz.prog base.glob 100 orc := fnok.ok2 rfl spec
end BParts
end Go.Proofs.YtknafopmgaolmaaGreatDoor.W

/- gnomon/binary.number -/
namespace Go.Proofs.YtknafopmgaolmaaGreatDoor.W
open Go Go.Proofs.YtknafopmgaolmaaGreatDoor.AI Go.Proofs.YtknafopmgaolmaaGreatDoor.M
namespace BNumber
noncomputable def E : Env := { ({ base with C := callsOf [(154, NWord.orc), (97, DMake.orc)] }) with nt := 20, own := [17], keep := fun k => (tlook [] k).getD [], cut := tlook [] }
noncomputable def cod : Code := (Go.Proofs.Tryz.f101.body).getD .skip
theorem nok : namesOk E cod = true := by kernel_rfl
theorem start (a : Bool) (b : Int) (c : Int) : evalFn E Go.Proofs.Tryz.f101 cod [D.s (S.sc (Value.bool a)), D.s (S.sc (Value.int IntKind.u64 b)), D.s (S.sc (Value.int IntKind.i64 c))] = bcase a (gif ((0 : Int) ≤ b ∧ b < (18446744073709551616 : Int)) (gif (Wok (b != (0 : Int), M6.dg b.toNat) ∧ (-9223372036854775808 : Int) ≤ c ∧ c < (9223372036854775808 : Int)) (some [D.agg [S.sc (Value.bool (isNeg (bif inD (wv (bif true then b != (0 : Int) else false, M6.dg b.toNat)) c then nrmD (wv (bif true then b != (0 : Int) else false, M6.dg b.toNat)) c else ((0 : Int), (0 : Int))).fst)), S.ints IntKind.u64 (M6.dg (bif inD (wv (bif true then b != (0 : Int) else false, M6.dg b.toNat)) c then nrmD (wv (bif true then b != (0 : Int) else false, M6.dg b.toNat)) c else ((0 : Int), (0 : Int))).fst.natAbs), S.sc (Value.int IntKind.i64 (bif inD (wv (bif true then b != (0 : Int) else false, M6.dg b.toNat)) c then nrmD (wv (bif true then b != (0 : Int) else false, M6.dg b.toNat)) c else ((0 : Int), (0 : Int))).snd)], D.s (S.sc (Value.int IntKind.i64 (bif inD (wv (b != (0 : Int), M6.dg b.toNat)) c then (0 : Int) else (5 : Int))))]))) (gif ((0 : Int) ≤ b ∧ b < (18446744073709551616 : Int)) (gif (Wok (false, M6.dg b.toNat) ∧ (-9223372036854775808 : Int) ≤ c ∧ c < (9223372036854775808 : Int)) (some [D.agg [S.sc (Value.bool (isNeg (bif inD (wv (false, M6.dg b.toNat)) c then nrmD (wv (false, M6.dg b.toNat)) c else ((0 : Int), (0 : Int))).fst)), S.ints IntKind.u64 (M6.dg (bif inD (wv (false, M6.dg b.toNat)) c then nrmD (wv (false, M6.dg b.toNat)) c else ((0 : Int), (0 : Int))).fst.natAbs), S.sc (Value.int IntKind.i64 (bif inD (wv (false, M6.dg b.toNat)) c then nrmD (wv (false, M6.dg b.toNat)) c else ((0 : Int), (0 : Int))).snd)], D.s (S.sc (Value.int IntKind.i64 (bif inD (wv (false, M6.dg b.toNat)) c then (0 : Int) else (5 : Int))))]))) := (evalFn_J rfl nok _).trans (by kernel_rfl)
-- stuck: 0
end BNumber
namespace BNumber
noncomputable def sp (a : Bool) (b c : Int) : Prop × List D := ((0 ≤ b ∧ b < 18446744073709551616) ∧ -9223372036854775808 ≤ c ∧ c < 9223372036854775808, dE (inD (zs a b.toNat) c) (nrmD (zs a b.toNat) c))
theorem spec (a : Bool) (b c : Int) (h : (sp a b c).1) : evalFn E Tryz.f101 cod [pB.put a, (pN .u64).put b, (pN .i64).put c] = some (sp a b c).2 := by
  obtain ⟨hb, hc⟩ := h
  refine (start a b c).trans ?_
  have hl := len6_bl (n := b.toNat) (k := 1) (bl_le.2 (by omega))
  have wv_of : ∀ s : Bool, wv (s, M6.dg b.toNat) = zs s b.toNat := fun s => by show zs s (M6.val (M6.dg b.toNat)) = _; rw [M6.val_dg]
  have h0 : Wok (false, M6.dg b.toNat) := ⟨M6.nrm_dg _, fun h => Bool.noConfusion h, (by omega : (M6.dg b.toNat).length ≤ 8192)⟩
  cases a with
  | false =>
    rw [bF, gP hb, gP ⟨h0, hc⟩, wv_of]
    rfl
  | true =>
    have h1 : Wok (b != 0, M6.dg b.toNat) := ⟨M6.nrm_dg _, fun h => by
      have hb0 : b ≠ 0 := bne_iff_ne.1 h
      show M6.val (M6.dg b.toNat) ≠ 0
      rw [M6.val_dg]
      omega, by show (M6.dg b.toNat).length ≤ 8192; omega⟩
    have e : zs (b != 0) b.toNat = zs true b.toNat := by
      by_cases hb0 : b = 0
      · subst hb0; rfl
      · rw [bne_iff_ne.2 hb0]
    rw [bT]
    try dsimp only [cond_true]
    rw [gP hb, gP ⟨h1, hc⟩, wv_of, e]
    rfl

noncomputable def orc : Orc := orc3 pB (pN .u64) (pN .i64) sp
theorem fnok : FnOk Tryz.prog E 101 Tryz.f101 cod := fnOk ty_ok mixed (callsOk_of _ rfl (orcs_cons NWord.ok (orcs_cons DMake.ok orcs_nil)) (ext_ok)) Tryz.func101 rfl rfl rfl
theorem ok : OrcOk Tryz.prog base.glob 101 orc := fnok.ok3 rfl spec
end BNumber
end Go.Proofs.YtknafopmgaolmaaGreatDoor.W

/- gnomon/binary.Value -/
namespace Go.Proofs.YtknafopmgaolmaaGreatDoor.W
open Go Go.Proofs.YtknafopmgaolmaaGreatDoor.AI Go.Proofs.YtknafopmgaolmaaGreatDoor.M
namespace BValue
noncomputable def E : Env := { ({ base with C := callsOf [(99, BFinite.orc), (100, BParts.orc), (101, BNumber.orc)] }) with nt := 36, own := [15, 33], keep := fun k => (tlook [] k).getD [], cut := tlook [] }
noncomputable def cod : Code := (Go.Proofs.Tryz.f44.body).getD .skip
theorem nok : namesOk E cod = true := by kernel_rfl
theorem start (a : Int) (b : Int) : evalFn E Go.Proofs.Tryz.f44 cod [D.s (S.sc (Value.int IntKind.i64 a)), D.s (S.sc (Value.int IntKind.u64 b))] = gif ((a = (32 : Int) ∨ a = (64 : Int)) ∧ (0 : Int) ≤ b ∧ b < (18446744073709551616 : Int))
  (bcase ((bif BTake.patB a b then bif BFinite.finB a b then (0 : Int) else (6 : Int) else (2 : Int)) != (0 : Int)) (some [D.agg [S.sc (Value.bool false), S.sc (Value.slice none (0 : Nat) (0 : Nat)), S.sc (Value.int IntKind.i64 (0 : Int))], D.s (S.sc (Value.int IntKind.i64 (bif BTake.patB a b then bif BFinite.finB a b then (0 : Int) else (6 : Int) else (2 : Int))))])
    (gif (BShape.Two ((BShape.shp a).fst, (BShape.shp a).snd.fst, (BShape.shp a).snd.snd.fst, (BShape.shp a).snd.snd.snd) ∧ ((0 : Int) ≤ bif BTake.patB a b && BFinite.finB a b then b % BSign.signV (BShape.shp a) else (0 : Int)) ∧ (bif BTake.patB a b && BFinite.finB a b then b % BSign.signV (BShape.shp a) else (0 : Int)) < (9223372036854775808 : Int))
      (gif (((0 : Int) ≤ BParts.manV ((BShape.shp a).fst, (BShape.shp a).snd.fst, (BShape.shp a).snd.snd.fst, (BShape.shp a).snd.snd.snd) (bif BTake.patB a b && BFinite.finB a b then b % BSign.signV (BShape.shp a) else (0 : Int)) ∧ BParts.manV ((BShape.shp a).fst, (BShape.shp a).snd.fst, (BShape.shp a).snd.snd.fst, (BShape.shp a).snd.snd.snd) (bif BTake.patB a b && BFinite.finB a b then b % BSign.signV (BShape.shp a) else (0 : Int)) < (18446744073709551616 : Int)) ∧ (-9223372036854775808 : Int) ≤ BParts.expV ((BShape.shp a).fst, (BShape.shp a).snd.fst, (BShape.shp a).snd.snd.fst, (BShape.shp a).snd.snd.snd) (bif BTake.patB a b && BFinite.finB a b then b % BSign.signV (BShape.shp a) else (0 : Int)) ∧ BParts.expV ((BShape.shp a).fst, (BShape.shp a).snd.fst, (BShape.shp a).snd.snd.fst, (BShape.shp a).snd.snd.snd) (bif BTake.patB a b && BFinite.finB a b then b % BSign.signV (BShape.shp a) else (0 : Int)) < (9223372036854775808 : Int))
        (some [D.agg [S.sc (Value.bool (isNeg (bif inD (zs (BTake.patB a b && (BFinite.finB a b && decide (BSign.signV (BShape.shp a) ≤ b))) (BParts.manV ((BShape.shp a).fst, (BShape.shp a).snd.fst, (BShape.shp a).snd.snd.fst, (BShape.shp a).snd.snd.snd) (bif BTake.patB a b && BFinite.finB a b then b % BSign.signV (BShape.shp a) else (0 : Int))).toNat) (BParts.expV ((BShape.shp a).fst, (BShape.shp a).snd.fst, (BShape.shp a).snd.snd.fst, (BShape.shp a).snd.snd.snd) (bif BTake.patB a b && BFinite.finB a b then b % BSign.signV (BShape.shp a) else (0 : Int))) then nrmD (zs (BTake.patB a b && (BFinite.finB a b && decide (BSign.signV (BShape.shp a) ≤ b))) (BParts.manV ((BShape.shp a).fst, (BShape.shp a).snd.fst, (BShape.shp a).snd.snd.fst, (BShape.shp a).snd.snd.snd) (bif BTake.patB a b && BFinite.finB a b then b % BSign.signV (BShape.shp a) else (0 : Int))).toNat) (BParts.expV ((BShape.shp a).fst, (BShape.shp a).snd.fst, (BShape.shp a).snd.snd.fst, (BShape.shp a).snd.snd.snd) (bif BTake.patB a b && BFinite.finB a b then b % BSign.signV (BShape.shp a) else (0 : Int))) else ((0 : Int), (0 : Int))).fst)), S.ints IntKind.u64 (M6.dg (bif inD (zs (BTake.patB a b && (BFinite.finB a b && decide (BSign.signV (BShape.shp a) ≤ b))) (BParts.manV ((BShape.shp a).fst, (BShape.shp a).snd.fst, (BShape.shp a).snd.snd.fst, (BShape.shp a).snd.snd.snd) (bif BTake.patB a b && BFinite.finB a b then b % BSign.signV (BShape.shp a) else (0 : Int))).toNat) (BParts.expV ((BShape.shp a).fst, (BShape.shp a).snd.fst, (BShape.shp a).snd.snd.fst, (BShape.shp a).snd.snd.snd) (bif BTake.patB a b && BFinite.finB a b then b % BSign.signV (BShape.shp a) else (0 : Int))) then nrmD (zs (BTake.patB a b && (BFinite.finB a b && decide (BSign.signV (BShape.shp a) ≤ b))) (BParts.manV ((BShape.shp a).fst, (BShape.shp a).snd.fst, (BShape.shp a).snd.snd.fst, (BShape.shp a).snd.snd.snd) (bif BTake.patB a b && BFinite.finB a b then b % BSign.signV (BShape.shp a) else (0 : Int))).toNat) (BParts.expV ((BShape.shp a).fst, (BShape.shp a).snd.fst, (BShape.shp a).snd.snd.fst, (BShape.shp a).snd.snd.snd) (bif BTake.patB a b && BFinite.finB a b then b % BSign.signV (BShape.shp a) else (0 : Int))) else ((0 : Int), (0 : Int))).fst.natAbs), S.sc (Value.int IntKind.i64 (bif inD (zs (BTake.patB a b && (BFinite.finB a b && decide (BSign.signV (BShape.shp a) ≤ b))) (BParts.manV ((BShape.shp a).fst, (BShape.shp a).snd.fst, (BShape.shp a).snd.snd.fst, (BShape.shp a).snd.snd.snd) (bif BTake.patB a b && BFinite.finB a b then b % BSign.signV (BShape.shp a) else (0 : Int))).toNat) (BParts.expV ((BShape.shp a).fst, (BShape.shp a).snd.fst, (BShape.shp a).snd.snd.fst, (BShape.shp a).snd.snd.snd) (bif BTake.patB a b && BFinite.finB a b then b % BSign.signV (BShape.shp a) else (0 : Int))) then nrmD (zs (BTake.patB a b && (BFinite.finB a b && decide (BSign.signV (BShape.shp a) ≤ b))) (BParts.manV ((BShape.shp a).fst, (BShape.shp a).snd.fst, (BShape.shp a).snd.snd.fst, (BShape.shp a).snd.snd.snd) (bif BTake.patB a b && BFinite.finB a b then b % BSign.signV (BShape.shp a) else (0 : Int))).toNat) (BParts.expV ((BShape.shp a).fst, (BShape.shp a).snd.fst, (BShape.shp a).snd.snd.fst, (BShape.shp a).snd.snd.snd) (bif BTake.patB a b && BFinite.finB a b then b % BSign.signV (BShape.shp a) else (0 : Int))) else ((0 : Int), (0 : Int))).snd)], D.s (S.sc (Value.int IntKind.i64 (bif inD (zs (BTake.patB a b && (BFinite.finB a b && decide (BSign.signV (BShape.shp a) ≤ b))) (BParts.manV ((BShape.shp a).fst, (BShape.shp a).snd.fst, (BShape.shp a).snd.snd.fst, (BShape.shp a).snd.snd.snd) (bif BTake.patB a b && BFinite.finB a b then b % BSign.signV (BShape.shp a) else (0 : Int))).toNat) (BParts.expV ((BShape.shp a).fst, (BShape.shp a).snd.fst, (BShape.shp a).snd.snd.fst, (BShape.shp a).snd.snd.snd) (bif BTake.patB a b && BFinite.finB a b then b % BSign.signV (BShape.shp a) else (0 : Int))) then (0 : Int) else (5 : Int))))])))) := (evalFn_J rfl nok _).trans (by kernel_rfl)
-- stuck: 0
end BValue
namespace BValue
/-- The number of a finite pattern: whole number and exponent, as they lie in the pattern. -/
def valZ (f b : Int) : Int := zs (decide (BSign.signV (BShape.shp f) ≤ b)) (BParts.manV (BShape.shp f) (b % BSign.signV (BShape.shp f))).toNat
def valE (f b : Int) : Int := BParts.expV (BShape.shp f) (b % BSign.signV (BShape.shp f))
noncomputable def sp (f b : Int) : Prop × List D := ((f = 32 ∨ f = 64) ∧ 0 ≤ b ∧ b < 18446744073709551616, [dD (bif BTake.patB f b && BFinite.finB f b then nrmD (valZ f b) (valE f b) else (0, 0)), .s (.sc (.int .i64 (bif BTake.patB f b then (bif BFinite.finB f b then 0 else 6) else 2)))])
theorem man_lt {s : Int × Int × Int × Int} {n : Int} (_ : BShape.Two s) (_ : 0 ≤ n) : 0 ≤ BParts.manV s n ∧ BParts.manV s n < 9007199254740992 := by
  unfold BParts.manV BHidden.hidV
  split <;> split <;> omega
theorem exp_lt {s : Int × Int × Int × Int} {n : Int} (ht : BShape.Two s) (h0 : 0 ≤ n) (h1 : n < BInf.infV s) : -1074 ≤ BParts.expV s n ∧ BParts.expV s n < 1024 := by
  rcases ht with rfl | rfl
  · unfold BParts.expV
    have : n < 2139095040 := h1
    rw [show BHidden.hidV (32, 24, -149, 2143289345) = 8388608 from rfl]
    try dsimp only
    split <;> omega
  · unfold BParts.expV
    have : n < 9218868437227405312 := h1
    rw [show BHidden.hidV (64, 53, -1074, 9221120237041090561) = 4503599627370496 from rfl]
    try dsimp only
    split <;> omega
theorem in_val {z e : Int} (hz : z.natAbs < 9007199254740992) (h0 : -1074 ≤ e) (h1 : e < 1024) : inD z e = true := by
  unfold inD
  by_cases hc : z = 0
  · rw [decide_eq_true hc, Bool.true_or]
  · have h2 := tz_bl (n := z.natAbs) (by omega)
    have h3 : bl z.natAbs ≤ 53 := bl_le.2 (by omega)
    rw [decide_eq_true (show -1048576 ≤ e + ((tz z.natAbs : Nat) : Int) by omega), decide_eq_true (show e + ((tz z.natAbs : Nat) : Int) ≤ 1048576 by omega), Bool.true_and, Bool.or_true]
theorem spec (f b : Int) (h : (sp f b).1) : ∃ rs, evalFn E Tryz.f44 cod [(pN .i64).put f, (pN .u64).put b] = some rs ∧ RsLe rs (sp f b).2 := by
  have e := (start f b).trans (gP h)
  have ht := BFinite.two_shp h.1
  have hb0 : 0 ≤ b := h.2.1
  unfold sp
  try dsimp only
  cases hp : BTake.patB f b with
  | false =>
    rw [hp] at e
    refine ⟨_, e, .cons ?_ (RsLe.refl _)⟩
    unfold dD
    rw [Bool.false_and, cond_false, show ((0, 0) : Int × Int).1.natAbs = 0 from rfl, M6.dg_zero]
    exact RLe.agg (.cons (SLe.refl _) (.cons (SLe.nil _) (CsLe.refl _)))
  | true =>
    rw [hp] at e
    cases hq : BFinite.finB f b with
    | false =>
      rw [hq] at e
      refine ⟨_, e, .cons ?_ (RsLe.refl _)⟩
      unfold dD
      rw [Bool.and_false, cond_false, show ((0, 0) : Int × Int).1.natAbs = 0 from rfl, M6.dg_zero]
      exact RLe.agg (.cons (SLe.refl _) (.cons (SLe.nil _) (CsLe.refl _)))
    | true =>
      rw [hq] at e
      have hn0 : 0 ≤ b % BSign.signV (BShape.shp f) := by
        unfold BSign.signV
        split <;> omega
      have hfin : b % BSign.signV (BShape.shp f) < BInf.infV (BShape.shp f) := of_decide_eq_true hq
      have hinf : BInf.infV (BShape.shp f) ≤ 9218868437227405312 := by unfold BInf.infV; split <;> omega
      have hm := man_lt ht hn0
      have hx := exp_lt ht hn0 hfin
      rw [show (true && true) = true from rfl] at e
      try dsimp only [cond_true] at e
      rw [show ((BShape.shp f).1, (BShape.shp f).2.1, (BShape.shp f).2.2.1, (BShape.shp f).2.2.2) = BShape.shp f from rfl] at e
      rw [bN_neg rfl, gP ⟨ht, hn0, by omega⟩, gP ⟨⟨hm.1, by omega⟩, by omega, by omega⟩] at e
      refine ⟨_, e, ?_⟩
      have hi : inD (valZ f b) (valE f b) = true := in_val (by unfold valZ; rw [zs_abs]; omega) hx.1 hx.2
      unfold valZ valE at hi
      unfold valZ valE
      rw [show (true && (true && decide (BSign.signV (BShape.shp f) ≤ b))) = decide (BSign.signV (BShape.shp f) ≤ b) from rfl, hi]
      exact RsLe.refl _

noncomputable def orc : Orc := orc2 (pN .i64) (pN .u64) sp
theorem fnok : FnOk Tryz.prog E 44 Tryz.f44 cod := fnOk ty_ok mixed (callsOk_of _ rfl (orcs_cons BFinite.ok (orcs_cons BParts.ok (orcs_cons BNumber.ok orcs_nil))) (ext_ok)) Tryz.func44 rfl rfl rfl
theorem ok : OrcOk Tryz.prog base.glob 44 orc := fnok.wk2 rfl spec
end BValue
end Go.Proofs.YtknafopmgaolmaaGreatDoor.W

/- gnomon/num.Of -/
namespace Go.Proofs.YtknafopmgaolmaaGreatDoor.W
open Go Go.Proofs.YtknafopmgaolmaaGreatDoor.AI Go.Proofs.YtknafopmgaolmaaGreatDoor.M
namespace MOf
noncomputable def E : Env := { ({ base with C := callsOf [(154, NWord.orc), (153, MWhole.orc)] }) with nt := 14, own := [], keep := fun k => (tlook [] k).getD [], cut := tlook [] }
noncomputable def cod : Code := (Go.Proofs.Tryz.f98.body).getD .skip
theorem nok : namesOk E cod = true := by kernel_rfl
theorem start (a : Int) : evalFn E Go.Proofs.Tryz.f98 cod [D.s (S.sc (Value.int IntKind.i64 a))] = bcase (decide (a < (0 : Int))) (gif ((0 : Int) ≤ IntKind.u64.wrap ((0 : Int) - IntKind.u64.wrap a) ∧ IntKind.u64.wrap ((0 : Int) - IntKind.u64.wrap a) < (18446744073709551616 : Int)) (gif (M6.Nrm (M6.dg (IntKind.u64.wrap ((0 : Int) - IntKind.u64.wrap a)).toNat) ∧ (M6.dg (IntKind.u64.wrap ((0 : Int) - IntKind.u64.wrap a)).toNat).length ≤ (1099511627776 : Nat)) (some [D.agg [S.sc (Value.bool (isNeg (zs true (M6.val (M6.dg (IntKind.u64.wrap ((0 : Int) - IntKind.u64.wrap a)).toNat))))), S.ints IntKind.u64 (M6.dg (zs true (M6.val (M6.dg (IntKind.u64.wrap ((0 : Int) - IntKind.u64.wrap a)).toNat))).natAbs)]]))) (gif ((0 : Int) ≤ IntKind.u64.wrap a ∧ IntKind.u64.wrap a < (18446744073709551616 : Int)) (gif (M6.Nrm (M6.dg (IntKind.u64.wrap a).toNat) ∧ (M6.dg (IntKind.u64.wrap a).toNat).length ≤ (1099511627776 : Nat)) (some [D.agg [S.sc (Value.bool (isNeg (zs false (M6.val (M6.dg (IntKind.u64.wrap a).toNat))))), S.ints IntKind.u64 (M6.dg (zs false (M6.val (M6.dg (IntKind.u64.wrap a).toNat))).natAbs)]]))) := (evalFn_J rfl nok _).trans (by kernel_rfl)
-- stuck: 0
end MOf
namespace MOf
noncomputable def sp (a : Int) : Prop × List D := (-9223372036854775808 ≤ a ∧ a < 9223372036854775808, [wD a])
theorem spec (a : Int) (h : (sp a).1) : evalFn E Tryz.f98 cod [(pN .i64).put a] = some (sp a).2 := by
  obtain ⟨h1, h2⟩ := h
  refine (start a).trans ?_
  show _ = some [wD a]
  by_cases hn : a < 0
  · have w1 : IntKind.u64.wrap (0 - IntKind.u64.wrap a) = ((a.natAbs : Nat) : Int) := by rw [wrap_u64_eq, wrap_u64_eq]; omega
    have hl := len6_bl (n := a.natAbs) (k := 1) (bl_le.2 (by omega))
    rw [bD_pos hn, w1, Int.toNat_natCast, gP ⟨by omega, by omega⟩, gP ⟨M6.nrm_dg _, by omega⟩, M6.val_dg]
    have : zs true a.natAbs = a := by show -((a.natAbs : Nat) : Int) = a; omega
    rw [this]
    rfl
  · have w1 : IntKind.u64.wrap a = ((a.natAbs : Nat) : Int) := by rw [wrap_u64_eq]; omega
    have hl := len6_bl (n := a.natAbs) (k := 1) (bl_le.2 (by omega))
    rw [bD_neg hn, w1, Int.toNat_natCast, gP ⟨by omega, by omega⟩, gP ⟨M6.nrm_dg _, by omega⟩, M6.val_dg]
    have : zs false a.natAbs = a := by show ((a.natAbs : Nat) : Int) = a; omega
    rw [this]
    rfl

noncomputable def orc : Orc := orc1 (pN .i64) sp
theorem fnok : FnOk Tryz.prog E 98 Tryz.f98 cod := fnOk ty_ok mixed (callsOk_of _ rfl (orcs_cons NWord.ok (orcs_cons MWhole.ok orcs_nil)) (ext_ok)) Tryz.func98 rfl rfl rfl
theorem ok : OrcOk Tryz.prog base.glob 98 orc := fnok.ok1 rfl spec
end MOf
end Go.Proofs.YtknafopmgaolmaaGreatDoor.W

/- gnomon/turn.dyad -/
namespace Go.Proofs.YtknafopmgaolmaaGreatDoor.W
open Go Go.Proofs.YtknafopmgaolmaaGreatDoor.AI Go.Proofs.YtknafopmgaolmaaGreatDoor.M
namespace UDyad
noncomputable def E : Env := { ({ base with C := callsOf [(98, MOf.orc), (97, DMake.orc)] }) with nt := 15, own := [], keep := fun k => (tlook [] k).getD [], cut := tlook [] }
noncomputable def cod : Code := (Go.Proofs.Tryz.f109.body).getD .skip
theorem nok : namesOk E cod = true := by kernel_rfl
theorem start (a : Int) (b : Int) : evalFn E Go.Proofs.Tryz.f109 cod [D.s (S.sc (Value.int IntKind.i64 a)), D.s (S.sc (Value.int IntKind.i64 b))] = gif ((-9223372036854775808 : Int) ≤ a ∧ a < (9223372036854775808 : Int)) (gif (Wok (isNeg a, M6.dg a.natAbs) ∧ (-9223372036854775808 : Int) ≤ b ∧ b < (9223372036854775808 : Int)) (some [D.agg [S.sc (Value.bool (isNeg (bif inD (wv (isNeg a, M6.dg a.natAbs)) b then nrmD (wv (isNeg a, M6.dg a.natAbs)) b else ((0 : Int), (0 : Int))).fst)), S.ints IntKind.u64 (M6.dg (bif inD (wv (isNeg a, M6.dg a.natAbs)) b then nrmD (wv (isNeg a, M6.dg a.natAbs)) b else ((0 : Int), (0 : Int))).fst.natAbs), S.sc (Value.int IntKind.i64 (bif inD (wv (isNeg a, M6.dg a.natAbs)) b then nrmD (wv (isNeg a, M6.dg a.natAbs)) b else ((0 : Int), (0 : Int))).snd)]])) := (evalFn_J rfl nok _).trans (by kernel_rfl)
-- stuck: 0
end UDyad
namespace UDyad
noncomputable def sp (m e : Int) : Prop × List D := ((-9223372036854775808 ≤ m ∧ m < 9223372036854775808) ∧ -9223372036854775808 ≤ e ∧ e < 9223372036854775808, [dD (bif inD m e then nrmD m e else (0, 0))])
theorem spec (m e : Int) (h : (sp m e).1) : evalFn E Tryz.f109 cod [(pN .i64).put m, (pN .i64).put e] = some (sp m e).2 := by
  obtain ⟨h1, h2⟩ := h
  refine (start m e).trans ?_
  have hb : bl m.natAbs ≤ 64 := bl_le.2 (by omega)
  rw [gP h1, gP ⟨wok_wD (by omega), h2⟩, wv_wD]
  rfl

noncomputable def orc : Orc := orc2 (pN .i64) (pN .i64) sp
theorem fnok : FnOk Tryz.prog E 109 Tryz.f109 cod := fnOk ty_ok mixed (callsOk_of _ rfl (orcs_cons MOf.ok (orcs_cons DMake.ok orcs_nil)) (ext_ok)) Tryz.func109 rfl rfl rfl
theorem ok : OrcOk Tryz.prog base.glob 109 orc := fnok.ok2 rfl spec
end UDyad
end Go.Proofs.YtknafopmgaolmaaGreatDoor.W

/- gnomon/dyadic.DownAt -/
namespace Go.Proofs.YtknafopmgaolmaaGreatDoor.W
open Go Go.Proofs.YtknafopmgaolmaaGreatDoor.AI Go.Proofs.YtknafopmgaolmaaGreatDoor.M
namespace DDownAt
noncomputable def E : Env := { ({ base with C := callsOf [(167, DGrid.orc)] }) with nt := 11, own := [8], keep := fun k => (tlook [] k).getD [], cut := tlook [] }
noncomputable def cod : Code := (Go.Proofs.Tryz.f110.body).getD .skip
theorem nok : namesOk E cod = true := by kernel_rfl
theorem start (a1 : Bool) (a2 : List Int) (a3 : Int) (b : Int) : evalFn E Go.Proofs.Tryz.f110 cod [D.agg [S.sc (Value.bool a1), S.ints IntKind.u64 a2, S.sc (Value.int IntKind.i64 a3)], D.s (S.sc (Value.int IntKind.i64 b))] = gif (DyOk (a1, a2, a3) ∧ ((-4611686018427387904 : Int) ≤ b ∧ b < (4611686018427387904 : Int)) ∧ false = false) (some [D.agg [S.sc (Value.bool (isNeg (bif DGrid.gridOk (dv (a1, a2, a3)) b then DGrid.gridD (dv (a1, a2, a3)) b else ((0 : Int), (0 : Int))).fst)), S.ints IntKind.u64 (M6.dg (bif DGrid.gridOk (dv (a1, a2, a3)) b then DGrid.gridD (dv (a1, a2, a3)) b else ((0 : Int), (0 : Int))).fst.natAbs), S.sc (Value.int IntKind.i64 (bif DGrid.gridOk (dv (a1, a2, a3)) b then DGrid.gridD (dv (a1, a2, a3)) b else ((0 : Int), (0 : Int))).snd)], D.s (S.sc (Value.int IntKind.i64 (bif DGrid.gridOk (dv (a1, a2, a3)) b then (0 : Int) else (5 : Int))))]) := (evalFn_J rfl nok _).trans (by kernel_rfl)
-- stuck: 0
end DDownAt
namespace DDownAt
noncomputable def sp (x : Bool × List Int × Int) (b : Int) : Prop × List D := (DyOk x ∧ -4611686018427387904 ≤ b ∧ b < 4611686018427387904, dE (DGrid.gridOk (dv x) b) (DGrid.gridD (dv x) b))
theorem spec (x : Bool × List Int × Int) (b : Int) (h : (sp x b).1) : evalFn E Tryz.f110 cod [(pG (.pair sB (.pair (sI .u64) (sN .i64)))).put x, (pN .i64).put b] = some (sp x b).2 :=
  (start x.1 x.2.1 x.2.2 b).trans (gP ⟨h.1, h.2, rfl⟩)

noncomputable def orc : Orc := orc2 (pG (.pair sB (.pair (sI .u64) (sN .i64)))) (pN .i64) sp
theorem fnok : FnOk Tryz.prog E 110 Tryz.f110 cod := fnOk ty_ok mixed (callsOk_of _ rfl (orcs_cons DGrid.ok orcs_nil) (ext_ok)) Tryz.func110 rfl rfl rfl
theorem ok : OrcOk Tryz.prog base.glob 110 orc := fnok.ok2 rfl spec
end DDownAt
end Go.Proofs.YtknafopmgaolmaaGreatDoor.W

/- gnomon/dyadic.Neg -/
namespace Go.Proofs.YtknafopmgaolmaaGreatDoor.W
open Go Go.Proofs.YtknafopmgaolmaaGreatDoor.AI Go.Proofs.YtknafopmgaolmaaGreatDoor.M
namespace DNeg
noncomputable def E : Env := { ({ base with C := callsOf [(96, DForm.orc), (103, DTwin.orc), (102, DNought.orc)] }) with nt := 22, own := [], keep := fun k => (tlook [] k).getD [], cut := tlook [] }
noncomputable def cod : Code := (Go.Proofs.Tryz.f78.body).getD .skip
theorem nok : namesOk E cod = true := by kernel_rfl
theorem start (a1 : Bool) (a2 : List Int) (a3 : Int) : evalFn E Go.Proofs.Tryz.f78 cod [D.agg [S.sc (Value.bool a1), S.ints IntKind.u64 a2, S.sc (Value.int IntKind.i64 a3)]] = gif (DyOk (a1, a2, a3)) (gif (a2.length ≤ (1099511627776 : Nat)) (bcase (!a1) (gif True (some [D.agg [S.sc (Value.bool !(↑a2.length : Int) == (0 : Int)), S.ints IntKind.u64 a2, S.sc (Value.int IntKind.i64 a3)], D.s (S.sc (Value.int IntKind.i64 (0 : Int)))])) (some [D.agg [S.sc (Value.bool false), S.ints IntKind.u64 a2, S.sc (Value.int IntKind.i64 a3)], D.s (S.sc (Value.int IntKind.i64 (0 : Int)))]))) := (evalFn_J rfl nok _).trans (by kernel_rfl)
-- stuck: 0
end DNeg
namespace DNeg
noncomputable def sp (x : Bool × List Int × Int) : Prop × List D := (DyOk x, dE true (-(dv x).1, (dv x).2))
theorem spec (x : Bool × List Int × Int) (h : (sp x).1) : evalFn E Tryz.f78 cod [(pG (.pair sB (.pair (sI .u64) (sN .i64)))).put x] = some (sp x).2 := by
  have h : DyOk x := h
  have hl := h.len
  have hc := h.wok.cells
  refine (start x.1 x.2.1 x.2.2).trans ?_
  obtain ⟨b, a, e⟩ := x
  try dsimp only at *
  unfold sp
  try dsimp only
  rw [gP h, gP (by omega)]
  have hz := M6.len_zero h.nrm
  have ha := wv_abs (b, a)
  try dsimp only at ha hz
  have e1 : dE true (-(dv (b, a, e)).1, (dv (b, a, e)).2) = [D.agg [.sc (.bool (isNeg (-(wv (b, a))))), .ints .u64 a, .sc (.int .i64 e)], .s (.sc (.int .i64 0))] := by
    show [M.dD (-(wv (b, a)), e), _] = _
    unfold M.dD
    try dsimp only
    rw [Int.natAbs_neg, hc.2]
    rfl
  rw [e1]
  cases b with
  | true =>
    have : wv (true, a) = -(M6.val a : Int) := wv_neg (x := (true, a)) rfl
    rw [Bool.not_true, bF, isNeg_false.2 (by omega)]
  | false =>
    have hw : wv (false, a) = (M6.val a : Int) := wv_pos (x := (false, a)) rfl
    rw [Bool.not_false, bT, gP trivial]
    by_cases h0 : a.length = 0
    · rw [beq_iff_eq.2 (show (a.length : Int) = 0 by omega), isNeg_false.2 (by have := hz.1 h0; omega)]
      rfl
    · rw [beq_eq_false_iff_ne.2 (show (a.length : Int) ≠ 0 by omega), isNeg_iff.2 (by have : M6.val a ≠ 0 := fun h => h0 (hz.2 h); omega)]
      rfl

noncomputable def orc : Orc := orc1 (pG (.pair sB (.pair (sI .u64) (sN .i64)))) sp
theorem fnok : FnOk Tryz.prog E 78 Tryz.f78 cod := fnOk ty_ok mixed (callsOk_of _ rfl (orcs_cons DForm.ok (orcs_cons DTwin.ok (orcs_cons DNought.ok orcs_nil))) (ext_ok)) Tryz.func78 rfl rfl rfl
theorem ok : OrcOk Tryz.prog base.glob 78 orc := fnok.ok1 rfl spec
end DNeg
end Go.Proofs.YtknafopmgaolmaaGreatDoor.W

/- gnomon/dyadic.Sub -/
namespace Go.Proofs.YtknafopmgaolmaaGreatDoor.W
open Go Go.Proofs.YtknafopmgaolmaaGreatDoor.AI Go.Proofs.YtknafopmgaolmaaGreatDoor.M
namespace DSub
noncomputable def E : Env := { ({ base with C := callsOf [(78, DNeg.orc), (45, DAdd.orc)] }) with nt := 22, own := [10, 19], keep := fun k => (tlook [] k).getD [], cut := tlook [] }
noncomputable def cod : Code := (Go.Proofs.Tryz.f75.body).getD .skip
theorem nok : namesOk E cod = true := by kernel_rfl
theorem start (a1 : Bool) (a2 : List Int) (a3 : Int) (b1 : Bool) (b2 : List Int) (b3 : Int) : evalFn E Go.Proofs.Tryz.f75 cod [D.agg [S.sc (Value.bool a1), S.ints IntKind.u64 a2, S.sc (Value.int IntKind.i64 a3)], D.agg [S.sc (Value.bool b1), S.ints IntKind.u64 b2, S.sc (Value.int IntKind.i64 b3)]] = gif (DyOk (b1, b2, b3)) (gif (DyOk (a1, a2, a3) ∧ DyOk (isNeg (-(dv (b1, b2, b3)).fst), M6.dg (-(dv (b1, b2, b3)).fst).natAbs, (dv (b1, b2, b3)).snd)) (some [D.agg [S.sc (Value.bool (isNeg (bif DAdd.addOk (dv (a1, a2, a3)) (dv (isNeg (bif true then (-(dv (b1, b2, b3)).fst, (dv (b1, b2, b3)).snd) else ((0 : Int), (0 : Int))).fst, M6.dg (bif true then (-(dv (b1, b2, b3)).fst, (dv (b1, b2, b3)).snd) else ((0 : Int), (0 : Int))).fst.natAbs, (bif true then (-(dv (b1, b2, b3)).fst, (dv (b1, b2, b3)).snd) else ((0 : Int), (0 : Int))).snd)) then DAdd.addD (dv (a1, a2, a3)) (dv (isNeg (bif true then (-(dv (b1, b2, b3)).fst, (dv (b1, b2, b3)).snd) else ((0 : Int), (0 : Int))).fst, M6.dg (bif true then (-(dv (b1, b2, b3)).fst, (dv (b1, b2, b3)).snd) else ((0 : Int), (0 : Int))).fst.natAbs, (bif true then (-(dv (b1, b2, b3)).fst, (dv (b1, b2, b3)).snd) else ((0 : Int), (0 : Int))).snd)) else ((0 : Int), (0 : Int))).fst)), S.ints IntKind.u64 (M6.dg (bif DAdd.addOk (dv (a1, a2, a3)) (dv (isNeg (bif true then (-(dv (b1, b2, b3)).fst, (dv (b1, b2, b3)).snd) else ((0 : Int), (0 : Int))).fst, M6.dg (bif true then (-(dv (b1, b2, b3)).fst, (dv (b1, b2, b3)).snd) else ((0 : Int), (0 : Int))).fst.natAbs, (bif true then (-(dv (b1, b2, b3)).fst, (dv (b1, b2, b3)).snd) else ((0 : Int), (0 : Int))).snd)) then DAdd.addD (dv (a1, a2, a3)) (dv (isNeg (bif true then (-(dv (b1, b2, b3)).fst, (dv (b1, b2, b3)).snd) else ((0 : Int), (0 : Int))).fst, M6.dg (bif true then (-(dv (b1, b2, b3)).fst, (dv (b1, b2, b3)).snd) else ((0 : Int), (0 : Int))).fst.natAbs, (bif true then (-(dv (b1, b2, b3)).fst, (dv (b1, b2, b3)).snd) else ((0 : Int), (0 : Int))).snd)) else ((0 : Int), (0 : Int))).fst.natAbs), S.sc (Value.int IntKind.i64 (bif DAdd.addOk (dv (a1, a2, a3)) (dv (isNeg (bif true then (-(dv (b1, b2, b3)).fst, (dv (b1, b2, b3)).snd) else ((0 : Int), (0 : Int))).fst, M6.dg (bif true then (-(dv (b1, b2, b3)).fst, (dv (b1, b2, b3)).snd) else ((0 : Int), (0 : Int))).fst.natAbs, (bif true then (-(dv (b1, b2, b3)).fst, (dv (b1, b2, b3)).snd) else ((0 : Int), (0 : Int))).snd)) then DAdd.addD (dv (a1, a2, a3)) (dv (isNeg (bif true then (-(dv (b1, b2, b3)).fst, (dv (b1, b2, b3)).snd) else ((0 : Int), (0 : Int))).fst, M6.dg (bif true then (-(dv (b1, b2, b3)).fst, (dv (b1, b2, b3)).snd) else ((0 : Int), (0 : Int))).fst.natAbs, (bif true then (-(dv (b1, b2, b3)).fst, (dv (b1, b2, b3)).snd) else ((0 : Int), (0 : Int))).snd)) else ((0 : Int), (0 : Int))).snd)], D.s (S.sc (Value.int IntKind.i64 (bif DAdd.addOk (dv (a1, a2, a3)) (dv (isNeg (bif true then (-(dv (b1, b2, b3)).fst, (dv (b1, b2, b3)).snd) else ((0 : Int), (0 : Int))).fst, M6.dg (bif true then (-(dv (b1, b2, b3)).fst, (dv (b1, b2, b3)).snd) else ((0 : Int), (0 : Int))).fst.natAbs, (bif true then (-(dv (b1, b2, b3)).fst, (dv (b1, b2, b3)).snd) else ((0 : Int), (0 : Int))).snd)) then (0 : Int) else (5 : Int))))])) := (evalFn_J rfl nok _).trans (by kernel_rfl)
-- stuck: 0
end DSub
namespace DSub
noncomputable def sp (x y : Bool × List Int × Int) : Prop × List D := (DyOk x ∧ DyOk y, dE (DAdd.addOk (dv x) (-(dv y).1, (dv y).2)) (DAdd.addD (dv x) (-(dv y).1, (dv y).2)))
theorem spec (x y : Bool × List Int × Int) (h : (sp x y).1) : evalFn E Tryz.f75 cod [(pG (.pair sB (.pair (sI .u64) (sN .i64)))).put x, (pG (.pair sB (.pair (sI .u64) (sN .i64)))).put y] = some (sp x y).2 := by
  obtain ⟨hx, hy⟩ := h
  refine (start x.1 x.2.1 x.2.2 y.1 y.2.1 y.2.2).trans ?_
  have hn := dyok_of hy.pin.neg
  have hv := dv_cells (-(dv y).1, (dv y).2)
  rw [gP hy, gP ⟨hx, hn⟩]
  try dsimp only [cond_true] at hv ⊢
  rw [hv]
  rfl

noncomputable def orc : Orc := orc2 (pG (.pair sB (.pair (sI .u64) (sN .i64)))) (pG (.pair sB (.pair (sI .u64) (sN .i64)))) sp
theorem fnok : FnOk Tryz.prog E 75 Tryz.f75 cod := fnOk ty_ok mixed (callsOk_of _ rfl (orcs_cons DNeg.ok (orcs_cons DAdd.ok orcs_nil)) (ext_ok)) Tryz.func75 rfl rfl rfl
theorem ok : OrcOk Tryz.prog base.glob 75 orc := fnok.ok2 rfl spec
end DSub
end Go.Proofs.YtknafopmgaolmaaGreatDoor.W

/- Numbers of a fixed length, base 2^64. -/
namespace Go.Proofs.YtknafopmgaolmaaGreatDoor.M6
open Go Go.Proofs.YtknafopmgaolmaaGreatDoor.M

/-- v in n digits. -/
def fdg (n v : Nat) : List Int := dg v ++ List.replicate (n - (dg v).length) 0
theorem fdg_val {n v : Nat} : val (fdg n v) = v := by
  unfold fdg
  rw [val_append, val_replicate, val_dg]
  omega
theorem fdg_dig {n v : Nat} : Dig (fdg n v) := dig_append.2 ⟨dig_dg _, dig_replicate _⟩
theorem fdg_len {n v : Nat} (h : v < 18446744073709551616 ^ n) : (fdg n v).length = n := by
  have := len_dg_le h
  unfold fdg
  rw [List.length_append, List.length_replicate]
  omega
theorem fdg_of {a : List Int} {n v : Nat} (h : Dig a) (hl : a.length = n) (hv : val a = v) : a = fdg n v := by
  subst hl; subst hv
  obtain ⟨k, hk⟩ := dg_val h
  unfold fdg
  have : a.length = (dg (val a)).length + k := by conv => lhs; rw [hk]
                                                  simp
  rw [this, Nat.add_sub_cancel_left]
  exact hk
theorem fdg_zero {n : Nat} : fdg n 0 = List.replicate n 0 := by simp [fdg, dg_zero]
theorem fdg_take {n v : Nat} : (fdg n v).take (dg v).length = dg v := by
  unfold fdg
  exact List.take_left
theorem fdg_dg {v : Nat} : fdg (dg v).length v = dg v := by simp [fdg]
theorem val_set {a : List Int} {j : Nat} (hj : j < a.length) (d : Int) : val (a.set j d) + 18446744073709551616 ^ j * (a.getD j 0).toNat = val a + 18446744073709551616 ^ j * d.toNat := by
  have h1 := val_take_drop (a.set j d) (n := j) (by simp; omega)
  have h2 := val_take_drop a (n := j) (by omega)
  rw [val_drop_set hj, List.take_set_of_le (Nat.le_refl j)] at h1
  rw [val_drop_one (a := a) j] at h2
  rw [h1, h2, Nat.mul_add, Nat.mul_add]
  omega
theorem pow_le {m n : Nat} (h : m ≤ n) : 18446744073709551616 ^ m ≤ 18446744073709551616 ^ n := Nat.pow_le_pow_right (by omega) h
theorem nrm_drop {a : List Int} (h : Nrm a) : ∀ k, Nrm (a.drop k)
  | 0 => h
  | k + 1 => by
    match a, h with
    | [], h => simpa using h
    | d :: a, h => exact nrm_drop (nrm_tail h) k
theorem val_take_mod {a : List Int} (h : Dig a) (k : Nat) : val (a.take k) = val a % 18446744073709551616 ^ k := by
  by_cases hk : k ≤ a.length
  · rw [val_take_drop a hk, Nat.add_mul_mod_self_left, Nat.mod_eq_of_lt (val_take_lt h k)]
  · rw [val_take_ge (by omega), Nat.mod_eq_of_lt]
    exact Nat.lt_of_lt_of_le (val_lt h) (pow_le (by omega))
theorem val_drop_div {a : List Int} (h : Dig a) (k : Nat) : val (a.drop k) = val a / 18446744073709551616 ^ k := by
  by_cases hk : k ≤ a.length
  · have h1 := val_take_drop a hk
    have h2 := val_take_lt h k
    rw [h1, Nat.add_mul_div_left _ _ (Nat.pow_pos (by omega)), Nat.div_eq_of_lt h2, Nat.zero_add]
  · rw [List.drop_of_length_le (by omega), Nat.div_eq_of_lt]
    · rfl
    · exact Nat.lt_of_lt_of_le (val_lt h) (pow_le (by omega))
theorem win_split (v o n : Nat) : v = v % 18446744073709551616 ^ o + 18446744073709551616 ^ o * (v / 18446744073709551616 ^ o % 18446744073709551616 ^ n) + 18446744073709551616 ^ (o + n) * (v / 18446744073709551616 ^ (o + n)) := by
  have h1 := Nat.mod_add_div v (18446744073709551616 ^ o)
  have h2 := Nat.mod_add_div (v / 18446744073709551616 ^ o) (18446744073709551616 ^ n)
  rw [Nat.div_div_eq_div_mul, ← Nat.pow_add] at h2
  conv => lhs; rw [← h1, ← h2]
  rw [Nat.mul_add, ← Nat.mul_assoc, ← Nat.pow_add]
  omega
/-- What is owed, or carried, at a window's end. -/
theorem win_owed {v v' o n X c : Nat} (h1 : v' % 18446744073709551616 ^ o = v % 18446744073709551616 ^ o) (h2 : v' / 18446744073709551616 ^ (o + n) = v / 18446744073709551616 ^ (o + n)) (h : v' + 18446744073709551616 ^ o * X = v + 18446744073709551616 ^ (o + n) * c) :
    v' / 18446744073709551616 ^ o % 18446744073709551616 ^ n + X = v / 18446744073709551616 ^ o % 18446744073709551616 ^ n + 18446744073709551616 ^ n * c := by
  have e1 := win_split v o n
  have e2 := win_split v' o n
  rw [h1, h2] at e2
  apply Nat.eq_of_mul_eq_mul_left (Nat.pow_pos (n := o) (by omega : 0 < 18446744073709551616))
  have e3 : 18446744073709551616 ^ (o + n) * c = 18446744073709551616 ^ o * (18446744073709551616 ^ n * c) := by rw [Nat.pow_add, Nat.mul_assoc]
  rw [e3] at h
  rw [Nat.mul_add, Nat.mul_add]
  omega
theorem win_lt (v o n : Nat) : v / 18446744073709551616 ^ o % 18446744073709551616 ^ n < 18446744073709551616 ^ n := Nat.mod_lt _ (Nat.pow_pos (by omega))
theorem win_keep {z z' : List Int} (hd : Dig z) (hd' : Dig z') {o n : Nat} (h1 : z'.take o = z.take o) (h2 : z'.drop (o + n) = z.drop (o + n)) : val z' % 18446744073709551616 ^ o = val z % 18446744073709551616 ^ o ∧ val z' / 18446744073709551616 ^ (o + n) = val z / 18446744073709551616 ^ (o + n) := by
  rw [← val_take_mod hd, ← val_take_mod hd', h1, ← val_drop_div hd, ← val_drop_div hd', h2]
  exact ⟨rfl, rfl⟩
end Go.Proofs.YtknafopmgaolmaaGreatDoor.M6

/- gnomon/nat.Norm -/
namespace Go.Proofs.YtknafopmgaolmaaGreatDoor.W
open Go Go.Proofs.YtknafopmgaolmaaGreatDoor.AI Go.Proofs.YtknafopmgaolmaaGreatDoor.M
namespace NNorm
noncomputable def E : Env := { ({ base with C := callsOf [(207, NTrim.orc)] }) with nt := 18, own := [], keep := fun k => (tlook [] k).getD [], cut := tlook [] }
noncomputable def cod : Code := (Go.Proofs.Tryz.f228.body).getD .skip
theorem nok : namesOk E cod = true := by kernel_rfl
theorem start (a : List Int) : evalFn E Go.Proofs.Tryz.f228 cod [D.s (S.ints IntKind.u64 a)] = gif (M6.Dig a ∧ a.length ≤ (1099511627776 : Nat)) (bcase (decide ((8192 : Int) < (↑(M6.dg (M6.val a)).length : Int))) (some [D.s (S.sc (Value.slice none (0 : Nat) (0 : Nat))), D.s (S.sc (Value.int IntKind.i64 (5 : Int)))]) (if (0 : Int) ≤ (↑(M6.dg (M6.val a)).length : Int) ∧ (↑(M6.dg (M6.val a)).length : Int) ≤ (↑(M6.dg (M6.val a)).length : Int) ∧ (↑(M6.dg (M6.val a)).length : Int) ≤ (8796093022208 : Int) then some [D.own (23 : Nat) IntKind.u64 (List.take (↑(M6.dg (M6.val a)).length : Int).toNat (M6.dg (M6.val a)) ++ List.drop (min (M6.dg (M6.val a)).length (↑(M6.dg (M6.val a)).length : Int).toNat) (List.replicate (↑(M6.dg (M6.val a)).length : Int).toNat (0 : Int))), D.s (S.sc (Value.int IntKind.i64 (0 : Int)))] else none)) := (evalFn_J rfl nok _).trans (by kernel_rfl)
-- stuck: 0
end NNorm
namespace NNorm
noncomputable def sp (a : List Int) : Prop × List D := (M6.Dig a ∧ a.length ≤ 1099511627776, [.s (.ints .u64 (bif NTold.okN (M6.val a) then M6.dg (M6.val a) else [])), .s (.sc (.int .i64 (bif NTold.okN (M6.val a) then 0 else 5)))])
theorem spec (a : List Int) (h : (sp a).1) : ∃ rs, evalFn E Tryz.f228 cod [(pI .u64).put a] = some rs ∧ RsLe rs (sp a).2 := by
  have hl := M6.len_val h.1
  have h2 := h.2
  have e := (start a).trans (gP h)
  unfold sp NTold.okN
  simp only
  generalize M6.dg (M6.val a) = d at *
  by_cases hc : d.length ≤ 8192
  · rw [bD_neg (by omega), if_pos ⟨by omega, by omega, by omega⟩] at e
    rw [decide_eq_true hc]
    refine ⟨_, e, .cons ?_ (RsLe.refl _)⟩
    simp only [Int.toNat_natCast, List.take_length, Nat.min_self, cond_true]
    have : List.drop d.length (List.replicate d.length (0 : Int)) = [] := List.drop_eq_nil_of_le (by simp)
    rw [this, List.append_nil]
    exact RLe.own _ _ _
  · rw [bD_pos (by omega)] at e
    rw [decide_eq_false hc]
    exact ⟨_, e, .cons (RLe.nil _) (RsLe.refl _)⟩

noncomputable def orc : Orc := orc1 (pI .u64) sp
theorem fnok : FnOk Tryz.prog E 228 Tryz.f228 cod := fnOk ty_ok mixed (callsOk_of _ rfl (orcs_cons NTrim.ok orcs_nil) (ext_ok)) Tryz.func228 rfl rfl rfl
theorem ok : OrcOk Tryz.prog base.glob 228 orc := fnok.wk1 rfl spec
end NNorm
end Go.Proofs.YtknafopmgaolmaaGreatDoor.W

/- math/bits.LeadingZeros64 -/
namespace Go.Proofs.YtknafopmgaolmaaGreatDoor.W
open Go Go.Proofs.YtknafopmgaolmaaGreatDoor.AI Go.Proofs.YtknafopmgaolmaaGreatDoor.M
namespace Lz64
noncomputable def E : Env := { ({ base with C := callsOf [(209, Len64.orc)] }) with nt := 6, own := [], keep := fun k => (tlook [] k).getD [], cut := tlook [] }
noncomputable def cod : Code := (Go.Proofs.Tryz.f230.body).getD .skip
theorem nok : namesOk E cod = true := by kernel_rfl
theorem start (a : Int) : evalFn E Go.Proofs.Tryz.f230 cod [D.s (S.sc (Value.int IntKind.u64 a))] = gif ((0 : Int) ≤ a ∧ a < (18446744073709551616 : Int)) (some [D.s (S.sc (Value.int IntKind.i64 (IntKind.i64.wrap ((64 : Int) - (↑(bl a.toNat) : Int)))))]) := (evalFn_J rfl nok _).trans (by kernel_rfl)
-- stuck: 0
end Lz64
namespace Lz64
noncomputable def sp (a : Int) : Prop × List D := (0 ≤ a ∧ a < 18446744073709551616, [.s (.sc (.int .i64 (64 - ((bl a.toNat : Nat) : Int))))])
theorem spec (a : Int) (h : (sp a).1) : evalFn E Tryz.f230 cod [(pN .u64).put a] = some (sp a).2 := by
  refine (start a).trans ((gP h).trans ?_)
  obtain ⟨h1, h2⟩ := h
  have : bl a.toNat ≤ 64 := bl_le.2 (by omega)
  rw [wrap_i64 (by omega) (by omega)]
  rfl

noncomputable def orc : Orc := orc1 (pN .u64) sp
theorem fnok : FnOk Tryz.prog E 230 Tryz.f230 cod := fnOk ty_ok mixed (callsOk_of _ rfl (orcs_cons Len64.ok orcs_nil) (ext_ok)) Tryz.func230 rfl rfl rfl
theorem ok : OrcOk Tryz.prog base.glob 230 orc := fnok.ok1 rfl spec
end Lz64
end Go.Proofs.YtknafopmgaolmaaGreatDoor.W

