/- Texts of the claim on TurnSplits, in their order: FUSigned, FUPattern, FUPlace, FUExact0, FUExact, FFinite17, FOf7, FCut7, FParts7, FNorm, FWord, FBit, FZeros, FDivSmall, FShr, FMk, FNumber17, FMulSmall, FShl, FZShl, FPow2, FAdd, FCmp, FSub, FZAdd, FLow, FFlip, FZSub, FZOf, FZFloorShr, FMul, FZMul, FSplit17, FTo, FZTo, FTold5, FZSign, FDivMod, FZFloor, FZFloorDiv, FZMod, FFits, FZInt, FQuarter17, FDocReduce17, FUPoint, FUEnclose, FSame, FSame5. -/
import Derived.Test.YtfebndgmmekmgaaGreatDoorBTurnSplits3
/- gnomon/turn.signed -/
namespace Go.Proofs.YtfebndgmmekmgaaGreatDoor.W
open Go Go.Proofs.YtfebndgmmekmgaaGreatDoor.AI Go.Proofs.YtfebndgmmekmgaaGreatDoor.M
namespace USigned
noncomputable def E : Env := { (base) with nt := 14, own := [], keep := fun k => (tlook [] k).getD [], cut := tlook [] }
noncomputable def cod : Code := (Go.Proofs.Tryz.f93.body).getD .skip
theorem nok : namesOk E cod = true := by kernel_rfl
theorem start (a : Int) (b : Bool) (c : Int) : evalFn E Go.Proofs.Tryz.f93 cod [D.s (S.sc (Value.int IntKind.i64 a)), D.s (S.sc (Value.bool b)), D.s (S.sc (Value.int IntKind.u64 c))] = bcase b (if IntKind.i64.wrap (a - (1 : Int)) < (0 : Int) then none else some [D.s (S.sc (Value.int IntKind.u64 (bitsI BinOp.or IntKind.u64 c (IntKind.u64.wrap ((1 : Int) * (↑((2 : Nat) ^ min (IntKind.i64.wrap (a - (1 : Int))).toNat (64 : Nat)) : Int))))))]) (some [D.s (S.sc (Value.int IntKind.u64 c))]) := (evalFn_J rfl nok _).trans (by kernel_rfl)
-- stuck: 0
end USigned
namespace USigned
noncomputable def sp (f : Int) (b : Bool) (c : Int) : Prop × List D := ((f = 32 ∨ f = 64) ∧ 0 ≤ c ∧ c < BSign.signV (BShape.shp f), [.s (.sc (.int .u64 (BJoin.sgnd (BShape.shp f) b c)))])
theorem spec (f : Int) (b : Bool) (c : Int) (h : (sp f b c).1) : evalFn E Tryz.f93 cod [(pN .i64).put f, pB.put b, (pN .u64).put c] = some (sp f b c).2 := by
  obtain ⟨hf, h0, h1⟩ := h
  refine (start f b c).trans ?_
  have hs : BShape.Two (BShape.shp f) := BFinite.two_shp hf
  unfold sp
  dsimp only
  rw [← BJoin.or_sign hs h0 h1]
  cases b with
  | false => rfl
  | true => rcases hf with rfl | rfl <;> rfl

noncomputable def orc : Orc := orc3 (pN .i64) pB (pN .u64) sp
theorem fnok : FnOk Tryz.prog E 93 Tryz.f93 cod := fnOk ty_ok mixed (callsOk_of _ rfl orcs_nil (ext_ok)) Tryz.func93 rfl rfl rfl
theorem ok : OrcOk Tryz.prog base.glob 93 orc := fnok.ok3 rfl spec
end USigned
end Go.Proofs.YtfebndgmmekmgaaGreatDoor.W

/- gnomon/turn.pattern -/
namespace Go.Proofs.YtfebndgmmekmgaaGreatDoor.W
open Go Go.Proofs.YtfebndgmmekmgaaGreatDoor.AI Go.Proofs.YtfebndgmmekmgaaGreatDoor.M
namespace UPattern
noncomputable def E : Env := { ({ base with C := callsOf [(94, UInfinity.orc), (93, USigned.orc), (95, BJoin.orc)] }) with nt := 27, own := [15, 23], keep := fun k => (tlook [] k).getD [], cut := tlook [] }
noncomputable def cod : Code := (Go.Proofs.Tryz.f42.body).getD .skip
theorem nok : namesOk E cod = true := by kernel_rfl
theorem start (a : Int) (b1 : Int) (b2 : Bool) : evalFn E Go.Proofs.Tryz.f42 cod [D.s (S.sc (Value.int IntKind.i64 a)), D.agg [S.sc (Value.int IntKind.i64 b1), S.sc (Value.bool b2)]] = bcase (b1 == (2 : Int)) (gif (a = (32 : Int) ∨ a = (64 : Int)) (gif ((a = (32 : Int) ∨ a = (64 : Int)) ∧ (0 : Int) ≤ BInf.infV (BShape.shp a) ∧ BInf.infV (BShape.shp a) < BSign.signV (BShape.shp a)) (some [D.s (S.sc (Value.int IntKind.u64 (BJoin.sgnd (BShape.shp a) b2 (BInf.infV (BShape.shp a)))))]))) (gif ((a = (32 : Int) ∨ a = (64 : Int)) ∧ ((0 : Int) ≤ IntKind.u64.wrap b1 ∧ IntKind.u64.wrap b1 < (18446744073709551616 : Int)) ∧ (-4000 : Int) ≤ (0 : Int) ∧ (0 : Int) ≤ (2900 : Int)) (some [D.s (S.sc (Value.int IntKind.u64 (BJoin.valJ (BShape.shp a) b2 (BJoin.joinO (BShape.shp a) (IntKind.u64.wrap b1) (0 : Int)))))])) := (evalFn_J rfl nok _).trans (by kernel_rfl)
-- stuck: 0
end UPattern
namespace UPattern
/-- The pattern of an exact value. -/
def patV (f : Int) (s : Int) (n : Bool) : Int := BJoin.sgnd (BShape.shp f) n (if s = 2 then BInf.infV (BShape.shp f) else if s = 1 then (if f = 32 then 1065353216 else 4607182418800017408) else 0)
noncomputable def sp (f : Int) (v : Int × Bool) : Prop × List D := ((f = 32 ∨ f = 64) ∧ (v.1 = 0 ∨ v.1 = 1 ∨ v.1 = 2), [.s (.sc (.int .u64 (patV f v.1 v.2)))])
theorem one_join : BJoin.joinO (BShape.shp 64) 1 0 = some 4607182418800017408 ∧ BJoin.joinO (BShape.shp 32) 1 0 = some 1065353216 := by
  have b1 : bl 1 = 1 := rfl
  have t1 : tz (1 : Int).toNat = 0 := tz_odd rfl
  unfold BJoin.joinO BJoin.joinS BJoin.sizeJ BJoin.upJ
  rw [t1]
  exact ⟨rfl, rfl⟩
theorem spec (f : Int) (v : Int × Bool) (h : (sp f v).1) : evalFn E Tryz.f42 cod [(pN .i64).put f, (pG (.pair (sN .i64) sB)).put v] = some (sp f v).2 := by
  obtain ⟨hf, hv⟩ := h
  obtain ⟨s, n⟩ := v
  refine (start f s n).trans ?_
  unfold sp patV
  dsimp only at *
  have hi : 0 ≤ BInf.infV (BShape.shp f) ∧ BInf.infV (BShape.shp f) < BSign.signV (BShape.shp f) := by
    rcases hf with rfl | rfl
    · exact ⟨by show (0 : Int) ≤ 2139095040; omega, by show (2139095040 : Int) < 2147483648; omega⟩
    · exact ⟨by show (0 : Int) ≤ 9218868437227405312; omega, by show (9218868437227405312 : Int) < 9223372036854775808; omega⟩
  rcases hv with rfl | rfl | rfl
  · rw [bE_neg (by omega), show IntKind.u64.wrap 0 = 0 from rfl, gP ⟨hf, by omega, by omega⟩]
    rfl
  · rw [bE_neg (by omega), show IntKind.u64.wrap 1 = 1 from rfl, gP ⟨hf, by omega, by omega⟩]
    rcases hf with rfl | rfl
    · rw [one_join.2]; rfl
    · rw [one_join.1]; rfl
  · rw [bE_pos rfl, gP hf, gP ⟨hf, hi⟩]
    rfl

noncomputable def orc : Orc := orc2 (pN .i64) (pG (.pair (sN .i64) sB)) sp
theorem fnok : FnOk Tryz.prog E 42 Tryz.f42 cod := fnOk ty_ok mixed (callsOk_of _ rfl (orcs_cons UInfinity.ok (orcs_cons USigned.ok (orcs_cons BJoin.ok orcs_nil))) (ext_ok)) Tryz.func42 rfl rfl rfl
theorem ok : OrcOk Tryz.prog base.glob 42 orc := fnok.ok2 rfl spec
end UPattern
end Go.Proofs.YtfebndgmmekmgaaGreatDoor.W

/- gnomon/turn.place -/
namespace Go.Proofs.YtfebndgmmekmgaaGreatDoor.W
open Go Go.Proofs.YtfebndgmmekmgaaGreatDoor.AI Go.Proofs.YtfebndgmmekmgaaGreatDoor.M
namespace UPlace
noncomputable def E : Env := { (base) with nt := 19, own := [], keep := fun k => (tlook [] k).getD [], cut := tlook [] }
noncomputable def cod : Code := (Go.Proofs.Tryz.f96.body).getD .skip
theorem nok : namesOk E cod = true := by kernel_rfl
theorem start (a1 : Bool) (a2 : List Int) (a3 : Int) : evalFn E Go.Proofs.Tryz.f96 cod [D.agg [S.sc (Value.bool a1), S.ints IntKind.u64 a2, S.sc (Value.int IntKind.i64 a3)]] = bcase (decide ((0 : Int) < a3)) (some [D.s (S.sc (Value.int IntKind.i64 (1 : Int)))]) (bcase (a3 == (0 : Int)) (some [D.s (S.sc (Value.int IntKind.i64 (2 : Int)))]) (bcase (a3 == (-1 : Int)) (some [D.s (S.sc (Value.int IntKind.i64 (3 : Int)))]) (bcase (a3 == (-2 : Int)) (some [D.s (S.sc (Value.int IntKind.i64 (4 : Int)))]) (some [D.s (S.sc (Value.int IntKind.i64 (0 : Int)))])))) := (evalFn_J rfl nok _).trans (by kernel_rfl)
-- stuck: 0
end UPlace
namespace UPlace
/-- Where on the quarter turns a number lies, by its exponent. -/
def placeV (e : Int) : Int := if 0 < e then 1 else if e = 0 then 2 else if e = -1 then 3 else if e = -2 then 4 else 0
noncomputable def sp (x : Bool × List Int × Int) : Prop × List D := (True, [.s (.sc (.int .i64 (placeV x.2.2)))])
theorem spec (x : Bool × List Int × Int) (h : (sp x).1) : evalFn E Tryz.f96 cod [(pG (.pair sB (.pair (sI .u64) (sN .i64)))).put x] = some (sp x).2 := by
  refine (start x.1 x.2.1 x.2.2).trans ?_
  unfold sp placeV
  dsimp only
  by_cases h1 : 0 < x.2.2
  · rw [bD_pos h1, if_pos h1]
  · rw [bD_neg h1, if_neg h1]
    by_cases h2 : x.2.2 = 0
    · rw [bE_pos h2, if_pos h2]
    · rw [bE_neg h2, if_neg h2]
      by_cases h3 : x.2.2 = -1
      · rw [bE_pos h3, if_pos h3]
      · rw [bE_neg h3, if_neg h3]
        by_cases h4 : x.2.2 = -2
        · rw [bE_pos h4, if_pos h4]
        · rw [bE_neg h4, if_neg h4]

noncomputable def orc : Orc := orc1 (pG (.pair sB (.pair (sI .u64) (sN .i64)))) sp
theorem fnok : FnOk Tryz.prog E 96 Tryz.f96 cod := fnOk ty_ok mixed (callsOk_of _ rfl orcs_nil (ext_ok)) Tryz.func96 rfl rfl rfl
theorem ok : OrcOk Tryz.prog base.glob 96 orc := fnok.ok1 rfl spec
end UPlace
end Go.Proofs.YtfebndgmmekmgaaGreatDoor.W

/- gnomon/turn.exact -/
namespace Go.Proofs.YtfebndgmmekmgaaGreatDoor.W
open Go Go.Proofs.YtfebndgmmekmgaaGreatDoor.AI Go.Proofs.YtfebndgmmekmgaaGreatDoor.M
namespace UExact0
noncomputable def E : Env := { ({ base with C := callsOf [(96, UPlace.orc), (34, UMod4.orc)] }) with nt := 97, own := [], keep := fun k => (tlook [] k).getD [], cut := tlook [] }
noncomputable def cod : Code := (Go.Proofs.Tryz.f43.body).getD .skip
theorem nok : namesOk E cod = true := by kernel_rfl
theorem start (a : Int) (b1 : Bool) (b2 : List Int) (b3 : Int) : evalFn E Go.Proofs.Tryz.f43 cod [D.s (S.sc (Value.int IntKind.i64 a)), D.agg [S.sc (Value.bool b1), S.ints IntKind.u64 b2, S.sc (Value.int IntKind.i64 b3)]] = gif True
  (gif (Wok (b1, b2))
    (bcase (a == (4 : Int))
      (bcase (UPlace.placeV (b2, b3).snd == (1 : Int)) (some [D.agg [S.sc (Value.int IntKind.i64 (0 : Int)), S.sc (Value.bool b1)], D.s (S.sc (Value.bool true))])
        (bcase (UPlace.placeV (b2, b3).snd == (2 : Int)) (some [D.agg [S.sc (Value.int IntKind.i64 (0 : Int)), S.sc (Value.bool b1)], D.s (S.sc (Value.bool true))])
          (bcase (a == (4 : Int))
            (bcase (UPlace.placeV (b2, b3).snd == (3 : Int)) (some [D.agg [S.sc (Value.int IntKind.i64 (1 : Int)), S.sc (Value.bool (wv (b1, b2) % (4 : Int) == (3 : Int)))], D.s (S.sc (Value.bool true))])
              (bcase (a == (5 : Int))
                (bcase (UPlace.placeV (b2, b3).snd == (1 : Int)) (some [D.agg [S.sc (Value.int IntKind.i64 (1 : Int)), S.sc (Value.bool (UPlace.placeV (b2, b3).snd == (2 : Int)))], D.s (S.sc (Value.bool true))])
                  (bcase (UPlace.placeV (b2, b3).snd == (2 : Int)) (some [D.agg [S.sc (Value.int IntKind.i64 (1 : Int)), S.sc (Value.bool (UPlace.placeV (b2, b3).snd == (2 : Int)))], D.s (S.sc (Value.bool true))])
                    (bcase (a == (5 : Int)) (bcase (UPlace.placeV (b2, b3).snd == (3 : Int)) (some [D.agg [S.sc (Value.int IntKind.i64 (0 : Int)), S.sc (Value.bool false)], D.s (S.sc (Value.bool true))]) (bcase (a == (6 : Int)) (bcase (UPlace.placeV (b2, b3).snd == (1 : Int)) (some [D.agg [S.sc (Value.int IntKind.i64 (0 : Int)), S.sc (Value.bool (b1 != (UPlace.placeV (b2, b3).snd == (2 : Int))))], D.s (S.sc (Value.bool true))]) (bcase (UPlace.placeV (b2, b3).snd == (2 : Int)) (some [D.agg [S.sc (Value.int IntKind.i64 (0 : Int)), S.sc (Value.bool (b1 != (UPlace.placeV (b2, b3).snd == (2 : Int))))], D.s (S.sc (Value.bool true))]) (bcase (a == (6 : Int)) (bcase (UPlace.placeV (b2, b3).snd == (3 : Int)) (some [D.agg [S.sc (Value.int IntKind.i64 (2 : Int)), S.sc (Value.bool (wv (b1, b2) % (4 : Int) == (3 : Int)))], D.s (S.sc (Value.bool true))]) (bcase (a == (6 : Int)) (bcase (UPlace.placeV (b2, b3).snd == (4 : Int)) (some [D.agg [S.sc (Value.int IntKind.i64 (1 : Int)), S.sc (Value.bool (wv (b1, b2) % (4 : Int) == (3 : Int)))], D.s (S.sc (Value.bool true))]) (some [D.agg [S.sc (Value.int IntKind.i64 (0 : Int)), S.sc (Value.bool false)], D.s (S.sc (Value.bool false))])) (some [D.agg [S.sc (Value.int IntKind.i64 (0 : Int)), S.sc (Value.bool false)], D.s (S.sc (Value.bool false))]))) (bcase (a == (6 : Int)) (bcase (UPlace.placeV (b2, b3).snd == (4 : Int)) (some [D.agg [S.sc (Value.int IntKind.i64 (1 : Int)), S.sc (Value.bool (wv (b1, b2) % (4 : Int) == (3 : Int)))], D.s (S.sc (Value.bool true))]) (some [D.agg [S.sc (Value.int IntKind.i64 (0 : Int)), S.sc (Value.bool false)], D.s (S.sc (Value.bool false))])) (some [D.agg [S.sc (Value.int IntKind.i64 (0 : Int)), S.sc (Value.bool false)], D.s (S.sc (Value.bool false))]))))) (bcase (a == (6 : Int)) (bcase (UPlace.placeV (b2, b3).snd == (3 : Int)) (some [D.agg [S.sc (Value.int IntKind.i64 (2 : Int)), S.sc (Value.bool (wv (b1, b2) % (4 : Int) == (3 : Int)))], D.s (S.sc (Value.bool true))]) (bcase (a == (6 : Int)) (bcase (UPlace.placeV (b2, b3).snd == (4 : Int)) (some [D.agg [S.sc (Value.int IntKind.i64 (1 : Int)), S.sc (Value.bool (wv (b1, b2) % (4 : Int) == (3 : Int)))], D.s (S.sc (Value.bool true))]) (some [D.agg [S.sc (Value.int IntKind.i64 (0 : Int)), S.sc (Value.bool false)], D.s (S.sc (Value.bool false))])) (some [D.agg [S.sc (Value.int IntKind.i64 (0 : Int)), S.sc (Value.bool false)], D.s (S.sc (Value.bool false))]))) (bcase (a == (6 : Int)) (bcase (UPlace.placeV (b2, b3).snd == (4 : Int)) (some [D.agg [S.sc (Value.int IntKind.i64 (1 : Int)), S.sc (Value.bool (wv (b1, b2) % (4 : Int) == (3 : Int)))], D.s (S.sc (Value.bool true))]) (some [D.agg [S.sc (Value.int IntKind.i64 (0 : Int)), S.sc (Value.bool false)], D.s (S.sc (Value.bool false))])) (some [D.agg [S.sc (Value.int IntKind.i64 (0 : Int)), S.sc (Value.bool false)], D.s (S.sc (Value.bool false))])))))
                      (bcase (a == (6 : Int)) (bcase (UPlace.placeV (b2, b3).snd == (1 : Int)) (some [D.agg [S.sc (Value.int IntKind.i64 (0 : Int)), S.sc (Value.bool (b1 != (UPlace.placeV (b2, b3).snd == (2 : Int))))], D.s (S.sc (Value.bool true))]) (bcase (UPlace.placeV (b2, b3).snd == (2 : Int)) (some [D.agg [S.sc (Value.int IntKind.i64 (0 : Int)), S.sc (Value.bool (b1 != (UPlace.placeV (b2, b3).snd == (2 : Int))))], D.s (S.sc (Value.bool true))]) (bcase (a == (6 : Int)) (bcase (UPlace.placeV (b2, b3).snd == (3 : Int)) (some [D.agg [S.sc (Value.int IntKind.i64 (2 : Int)), S.sc (Value.bool (wv (b1, b2) % (4 : Int) == (3 : Int)))], D.s (S.sc (Value.bool true))]) (bcase (a == (6 : Int)) (bcase (UPlace.placeV (b2, b3).snd == (4 : Int)) (some [D.agg [S.sc (Value.int IntKind.i64 (1 : Int)), S.sc (Value.bool (wv (b1, b2) % (4 : Int) == (3 : Int)))], D.s (S.sc (Value.bool true))]) (some [D.agg [S.sc (Value.int IntKind.i64 (0 : Int)), S.sc (Value.bool false)], D.s (S.sc (Value.bool false))])) (some [D.agg [S.sc (Value.int IntKind.i64 (0 : Int)), S.sc (Value.bool false)], D.s (S.sc (Value.bool false))]))) (bcase (a == (6 : Int)) (bcase (UPlace.placeV (b2, b3).snd == (4 : Int)) (some [D.agg [S.sc (Value.int IntKind.i64 (1 : Int)), S.sc (Value.bool (wv (b1, b2) % (4 : Int) == (3 : Int)))], D.s (S.sc (Value.bool true))]) (some [D.agg [S.sc (Value.int IntKind.i64 (0 : Int)), S.sc (Value.bool false)], D.s (S.sc (Value.bool false))])) (some [D.agg [S.sc (Value.int IntKind.i64 (0 : Int)), S.sc (Value.bool false)], D.s (S.sc (Value.bool false))]))))) (bcase (a == (6 : Int)) (bcase (UPlace.placeV (b2, b3).snd == (3 : Int)) (some [D.agg [S.sc (Value.int IntKind.i64 (2 : Int)), S.sc (Value.bool (wv (b1, b2) % (4 : Int) == (3 : Int)))], D.s (S.sc (Value.bool true))]) (bcase (a == (6 : Int)) (bcase (UPlace.placeV (b2, b3).snd == (4 : Int)) (some [D.agg [S.sc (Value.int IntKind.i64 (1 : Int)), S.sc (Value.bool (wv (b1, b2) % (4 : Int) == (3 : Int)))], D.s (S.sc (Value.bool true))]) (some [D.agg [S.sc (Value.int IntKind.i64 (0 : Int)), S.sc (Value.bool false)], D.s (S.sc (Value.bool false))])) (some [D.agg [S.sc (Value.int IntKind.i64 (0 : Int)), S.sc (Value.bool false)], D.s (S.sc (Value.bool false))]))) (bcase (a == (6 : Int)) (bcase (UPlace.placeV (b2, b3).snd == (4 : Int)) (some [D.agg [S.sc (Value.int IntKind.i64 (1 : Int)), S.sc (Value.bool (wv (b1, b2) % (4 : Int) == (3 : Int)))], D.s (S.sc (Value.bool true))]) (some [D.agg [S.sc (Value.int IntKind.i64 (0 : Int)), S.sc (Value.bool false)], D.s (S.sc (Value.bool false))])) (some [D.agg [S.sc (Value.int IntKind.i64 (0 : Int)), S.sc (Value.bool false)], D.s (S.sc (Value.bool false))])))))))
                (bcase (a == (5 : Int)) (bcase (UPlace.placeV (b2, b3).snd == (3 : Int)) (some [D.agg [S.sc (Value.int IntKind.i64 (0 : Int)), S.sc (Value.bool false)], D.s (S.sc (Value.bool true))]) (bcase (a == (6 : Int)) (bcase (UPlace.placeV (b2, b3).snd == (1 : Int)) (some [D.agg [S.sc (Value.int IntKind.i64 (0 : Int)), S.sc (Value.bool (b1 != (UPlace.placeV (b2, b3).snd == (2 : Int))))], D.s (S.sc (Value.bool true))]) (bcase (UPlace.placeV (b2, b3).snd == (2 : Int)) (some [D.agg [S.sc (Value.int IntKind.i64 (0 : Int)), S.sc (Value.bool (b1 != (UPlace.placeV (b2, b3).snd == (2 : Int))))], D.s (S.sc (Value.bool true))]) (bcase (a == (6 : Int)) (bcase (UPlace.placeV (b2, b3).snd == (3 : Int)) (some [D.agg [S.sc (Value.int IntKind.i64 (2 : Int)), S.sc (Value.bool (wv (b1, b2) % (4 : Int) == (3 : Int)))], D.s (S.sc (Value.bool true))]) (bcase (a == (6 : Int)) (bcase (UPlace.placeV (b2, b3).snd == (4 : Int)) (some [D.agg [S.sc (Value.int IntKind.i64 (1 : Int)), S.sc (Value.bool (wv (b1, b2) % (4 : Int) == (3 : Int)))], D.s (S.sc (Value.bool true))]) (some [D.agg [S.sc (Value.int IntKind.i64 (0 : Int)), S.sc (Value.bool false)], D.s (S.sc (Value.bool false))])) (some [D.agg [S.sc (Value.int IntKind.i64 (0 : Int)), S.sc (Value.bool false)], D.s (S.sc (Value.bool false))]))) (bcase (a == (6 : Int)) (bcase (UPlace.placeV (b2, b3).snd == (4 : Int)) (some [D.agg [S.sc (Value.int IntKind.i64 (1 : Int)), S.sc (Value.bool (wv (b1, b2) % (4 : Int) == (3 : Int)))], D.s (S.sc (Value.bool true))]) (some [D.agg [S.sc (Value.int IntKind.i64 (0 : Int)), S.sc (Value.bool false)], D.s (S.sc (Value.bool false))])) (some [D.agg [S.sc (Value.int IntKind.i64 (0 : Int)), S.sc (Value.bool false)], D.s (S.sc (Value.bool false))]))))) (bcase (a == (6 : Int)) (bcase (UPlace.placeV (b2, b3).snd == (3 : Int)) (some [D.agg [S.sc (Value.int IntKind.i64 (2 : Int)), S.sc (Value.bool (wv (b1, b2) % (4 : Int) == (3 : Int)))], D.s (S.sc (Value.bool true))]) (bcase (a == (6 : Int)) (bcase (UPlace.placeV (b2, b3).snd == (4 : Int)) (some [D.agg [S.sc (Value.int IntKind.i64 (1 : Int)), S.sc (Value.bool (wv (b1, b2) % (4 : Int) == (3 : Int)))], D.s (S.sc (Value.bool true))]) (some [D.agg [S.sc (Value.int IntKind.i64 (0 : Int)), S.sc (Value.bool false)], D.s (S.sc (Value.bool false))])) (some [D.agg [S.sc (Value.int IntKind.i64 (0 : Int)), S.sc (Value.bool false)], D.s (S.sc (Value.bool false))]))) (bcase (a == (6 : Int)) (bcase (UPlace.placeV (b2, b3).snd == (4 : Int)) (some [D.agg [S.sc (Value.int IntKind.i64 (1 : Int)), S.sc (Value.bool (wv (b1, b2) % (4 : Int) == (3 : Int)))], D.s (S.sc (Value.bool true))]) (some [D.agg [S.sc (Value.int IntKind.i64 (0 : Int)), S.sc (Value.bool false)], D.s (S.sc (Value.bool false))])) (some [D.agg [S.sc (Value.int IntKind.i64 (0 : Int)), S.sc (Value.bool false)], D.s (S.sc (Value.bool false))])))))
                  (bcase (a == (6 : Int)) (bcase (UPlace.placeV (b2, b3).snd == (1 : Int)) (some [D.agg [S.sc (Value.int IntKind.i64 (0 : Int)), S.sc (Value.bool (b1 != (UPlace.placeV (b2, b3).snd == (2 : Int))))], D.s (S.sc (Value.bool true))]) (bcase (UPlace.placeV (b2, b3).snd == (2 : Int)) (some [D.agg [S.sc (Value.int IntKind.i64 (0 : Int)), S.sc (Value.bool (b1 != (UPlace.placeV (b2, b3).snd == (2 : Int))))], D.s (S.sc (Value.bool true))]) (bcase (a == (6 : Int)) (bcase (UPlace.placeV (b2, b3).snd == (3 : Int)) (some [D.agg [S.sc (Value.int IntKind.i64 (2 : Int)), S.sc (Value.bool (wv (b1, b2) % (4 : Int) == (3 : Int)))], D.s (S.sc (Value.bool true))]) (bcase (a == (6 : Int)) (bcase (UPlace.placeV (b2, b3).snd == (4 : Int)) (some [D.agg [S.sc (Value.int IntKind.i64 (1 : Int)), S.sc (Value.bool (wv (b1, b2) % (4 : Int) == (3 : Int)))], D.s (S.sc (Value.bool true))]) (some [D.agg [S.sc (Value.int IntKind.i64 (0 : Int)), S.sc (Value.bool false)], D.s (S.sc (Value.bool false))])) (some [D.agg [S.sc (Value.int IntKind.i64 (0 : Int)), S.sc (Value.bool false)], D.s (S.sc (Value.bool false))]))) (bcase (a == (6 : Int)) (bcase (UPlace.placeV (b2, b3).snd == (4 : Int)) (some [D.agg [S.sc (Value.int IntKind.i64 (1 : Int)), S.sc (Value.bool (wv (b1, b2) % (4 : Int) == (3 : Int)))], D.s (S.sc (Value.bool true))]) (some [D.agg [S.sc (Value.int IntKind.i64 (0 : Int)), S.sc (Value.bool false)], D.s (S.sc (Value.bool false))])) (some [D.agg [S.sc (Value.int IntKind.i64 (0 : Int)), S.sc (Value.bool false)], D.s (S.sc (Value.bool false))]))))) (bcase (a == (6 : Int)) (bcase (UPlace.placeV (b2, b3).snd == (3 : Int)) (some [D.agg [S.sc (Value.int IntKind.i64 (2 : Int)), S.sc (Value.bool (wv (b1, b2) % (4 : Int) == (3 : Int)))], D.s (S.sc (Value.bool true))]) (bcase (a == (6 : Int)) (bcase (UPlace.placeV (b2, b3).snd == (4 : Int)) (some [D.agg [S.sc (Value.int IntKind.i64 (1 : Int)), S.sc (Value.bool (wv (b1, b2) % (4 : Int) == (3 : Int)))], D.s (S.sc (Value.bool true))]) (some [D.agg [S.sc (Value.int IntKind.i64 (0 : Int)), S.sc (Value.bool false)], D.s (S.sc (Value.bool false))])) (some [D.agg [S.sc (Value.int IntKind.i64 (0 : Int)), S.sc (Value.bool false)], D.s (S.sc (Value.bool false))]))) (bcase (a == (6 : Int)) (bcase (UPlace.placeV (b2, b3).snd == (4 : Int)) (some [D.agg [S.sc (Value.int IntKind.i64 (1 : Int)), S.sc (Value.bool (wv (b1, b2) % (4 : Int) == (3 : Int)))], D.s (S.sc (Value.bool true))]) (some [D.agg [S.sc (Value.int IntKind.i64 (0 : Int)), S.sc (Value.bool false)], D.s (S.sc (Value.bool false))])) (some [D.agg [S.sc (Value.int IntKind.i64 (0 : Int)), S.sc (Value.bool false)], D.s (S.sc (Value.bool false))])))))))
            (bcase (a == (5 : Int))
              (bcase (UPlace.placeV (b2, b3).snd == (1 : Int)) (some [D.agg [S.sc (Value.int IntKind.i64 (1 : Int)), S.sc (Value.bool (UPlace.placeV (b2, b3).snd == (2 : Int)))], D.s (S.sc (Value.bool true))])
                (bcase (UPlace.placeV (b2, b3).snd == (2 : Int)) (some [D.agg [S.sc (Value.int IntKind.i64 (1 : Int)), S.sc (Value.bool (UPlace.placeV (b2, b3).snd == (2 : Int)))], D.s (S.sc (Value.bool true))])
                  (bcase (a == (5 : Int)) (bcase (UPlace.placeV (b2, b3).snd == (3 : Int)) (some [D.agg [S.sc (Value.int IntKind.i64 (0 : Int)), S.sc (Value.bool false)], D.s (S.sc (Value.bool true))]) (bcase (a == (6 : Int)) (bcase (UPlace.placeV (b2, b3).snd == (1 : Int)) (some [D.agg [S.sc (Value.int IntKind.i64 (0 : Int)), S.sc (Value.bool (b1 != (UPlace.placeV (b2, b3).snd == (2 : Int))))], D.s (S.sc (Value.bool true))]) (bcase (UPlace.placeV (b2, b3).snd == (2 : Int)) (some [D.agg [S.sc (Value.int IntKind.i64 (0 : Int)), S.sc (Value.bool (b1 != (UPlace.placeV (b2, b3).snd == (2 : Int))))], D.s (S.sc (Value.bool true))]) (bcase (a == (6 : Int)) (bcase (UPlace.placeV (b2, b3).snd == (3 : Int)) (some [D.agg [S.sc (Value.int IntKind.i64 (2 : Int)), S.sc (Value.bool (wv (b1, b2) % (4 : Int) == (3 : Int)))], D.s (S.sc (Value.bool true))]) (bcase (a == (6 : Int)) (bcase (UPlace.placeV (b2, b3).snd == (4 : Int)) (some [D.agg [S.sc (Value.int IntKind.i64 (1 : Int)), S.sc (Value.bool (wv (b1, b2) % (4 : Int) == (3 : Int)))], D.s (S.sc (Value.bool true))]) (some [D.agg [S.sc (Value.int IntKind.i64 (0 : Int)), S.sc (Value.bool false)], D.s (S.sc (Value.bool false))])) (some [D.agg [S.sc (Value.int IntKind.i64 (0 : Int)), S.sc (Value.bool false)], D.s (S.sc (Value.bool false))]))) (bcase (a == (6 : Int)) (bcase (UPlace.placeV (b2, b3).snd == (4 : Int)) (some [D.agg [S.sc (Value.int IntKind.i64 (1 : Int)), S.sc (Value.bool (wv (b1, b2) % (4 : Int) == (3 : Int)))], D.s (S.sc (Value.bool true))]) (some [D.agg [S.sc (Value.int IntKind.i64 (0 : Int)), S.sc (Value.bool false)], D.s (S.sc (Value.bool false))])) (some [D.agg [S.sc (Value.int IntKind.i64 (0 : Int)), S.sc (Value.bool false)], D.s (S.sc (Value.bool false))]))))) (bcase (a == (6 : Int)) (bcase (UPlace.placeV (b2, b3).snd == (3 : Int)) (some [D.agg [S.sc (Value.int IntKind.i64 (2 : Int)), S.sc (Value.bool (wv (b1, b2) % (4 : Int) == (3 : Int)))], D.s (S.sc (Value.bool true))]) (bcase (a == (6 : Int)) (bcase (UPlace.placeV (b2, b3).snd == (4 : Int)) (some [D.agg [S.sc (Value.int IntKind.i64 (1 : Int)), S.sc (Value.bool (wv (b1, b2) % (4 : Int) == (3 : Int)))], D.s (S.sc (Value.bool true))]) (some [D.agg [S.sc (Value.int IntKind.i64 (0 : Int)), S.sc (Value.bool false)], D.s (S.sc (Value.bool false))])) (some [D.agg [S.sc (Value.int IntKind.i64 (0 : Int)), S.sc (Value.bool false)], D.s (S.sc (Value.bool false))]))) (bcase (a == (6 : Int)) (bcase (UPlace.placeV (b2, b3).snd == (4 : Int)) (some [D.agg [S.sc (Value.int IntKind.i64 (1 : Int)), S.sc (Value.bool (wv (b1, b2) % (4 : Int) == (3 : Int)))], D.s (S.sc (Value.bool true))]) (some [D.agg [S.sc (Value.int IntKind.i64 (0 : Int)), S.sc (Value.bool false)], D.s (S.sc (Value.bool false))])) (some [D.agg [S.sc (Value.int IntKind.i64 (0 : Int)), S.sc (Value.bool false)], D.s (S.sc (Value.bool false))])))))
                    (bcase (a == (6 : Int)) (bcase (UPlace.placeV (b2, b3).snd == (1 : Int)) (some [D.agg [S.sc (Value.int IntKind.i64 (0 : Int)), S.sc (Value.bool (b1 != (UPlace.placeV (b2, b3).snd == (2 : Int))))], D.s (S.sc (Value.bool true))]) (bcase (UPlace.placeV (b2, b3).snd == (2 : Int)) (some [D.agg [S.sc (Value.int IntKind.i64 (0 : Int)), S.sc (Value.bool (b1 != (UPlace.placeV (b2, b3).snd == (2 : Int))))], D.s (S.sc (Value.bool true))]) (bcase (a == (6 : Int)) (bcase (UPlace.placeV (b2, b3).snd == (3 : Int)) (some [D.agg [S.sc (Value.int IntKind.i64 (2 : Int)), S.sc (Value.bool (wv (b1, b2) % (4 : Int) == (3 : Int)))], D.s (S.sc (Value.bool true))]) (bcase (a == (6 : Int)) (bcase (UPlace.placeV (b2, b3).snd == (4 : Int)) (some [D.agg [S.sc (Value.int IntKind.i64 (1 : Int)), S.sc (Value.bool (wv (b1, b2) % (4 : Int) == (3 : Int)))], D.s (S.sc (Value.bool true))]) (some [D.agg [S.sc (Value.int IntKind.i64 (0 : Int)), S.sc (Value.bool false)], D.s (S.sc (Value.bool false))])) (some [D.agg [S.sc (Value.int IntKind.i64 (0 : Int)), S.sc (Value.bool false)], D.s (S.sc (Value.bool false))]))) (bcase (a == (6 : Int)) (bcase (UPlace.placeV (b2, b3).snd == (4 : Int)) (some [D.agg [S.sc (Value.int IntKind.i64 (1 : Int)), S.sc (Value.bool (wv (b1, b2) % (4 : Int) == (3 : Int)))], D.s (S.sc (Value.bool true))]) (some [D.agg [S.sc (Value.int IntKind.i64 (0 : Int)), S.sc (Value.bool false)], D.s (S.sc (Value.bool false))])) (some [D.agg [S.sc (Value.int IntKind.i64 (0 : Int)), S.sc (Value.bool false)], D.s (S.sc (Value.bool false))]))))) (bcase (a == (6 : Int)) (bcase (UPlace.placeV (b2, b3).snd == (3 : Int)) (some [D.agg [S.sc (Value.int IntKind.i64 (2 : Int)), S.sc (Value.bool (wv (b1, b2) % (4 : Int) == (3 : Int)))], D.s (S.sc (Value.bool true))]) (bcase (a == (6 : Int)) (bcase (UPlace.placeV (b2, b3).snd == (4 : Int)) (some [D.agg [S.sc (Value.int IntKind.i64 (1 : Int)), S.sc (Value.bool (wv (b1, b2) % (4 : Int) == (3 : Int)))], D.s (S.sc (Value.bool true))]) (some [D.agg [S.sc (Value.int IntKind.i64 (0 : Int)), S.sc (Value.bool false)], D.s (S.sc (Value.bool false))])) (some [D.agg [S.sc (Value.int IntKind.i64 (0 : Int)), S.sc (Value.bool false)], D.s (S.sc (Value.bool false))]))) (bcase (a == (6 : Int)) (bcase (UPlace.placeV (b2, b3).snd == (4 : Int)) (some [D.agg [S.sc (Value.int IntKind.i64 (1 : Int)), S.sc (Value.bool (wv (b1, b2) % (4 : Int) == (3 : Int)))], D.s (S.sc (Value.bool true))]) (some [D.agg [S.sc (Value.int IntKind.i64 (0 : Int)), S.sc (Value.bool false)], D.s (S.sc (Value.bool false))])) (some [D.agg [S.sc (Value.int IntKind.i64 (0 : Int)), S.sc (Value.bool false)], D.s (S.sc (Value.bool false))])))))))
              (bcase (a == (5 : Int)) (bcase (UPlace.placeV (b2, b3).snd == (3 : Int)) (some [D.agg [S.sc (Value.int IntKind.i64 (0 : Int)), S.sc (Value.bool false)], D.s (S.sc (Value.bool true))]) (bcase (a == (6 : Int)) (bcase (UPlace.placeV (b2, b3).snd == (1 : Int)) (some [D.agg [S.sc (Value.int IntKind.i64 (0 : Int)), S.sc (Value.bool (b1 != (UPlace.placeV (b2, b3).snd == (2 : Int))))], D.s (S.sc (Value.bool true))]) (bcase (UPlace.placeV (b2, b3).snd == (2 : Int)) (some [D.agg [S.sc (Value.int IntKind.i64 (0 : Int)), S.sc (Value.bool (b1 != (UPlace.placeV (b2, b3).snd == (2 : Int))))], D.s (S.sc (Value.bool true))]) (bcase (a == (6 : Int)) (bcase (UPlace.placeV (b2, b3).snd == (3 : Int)) (some [D.agg [S.sc (Value.int IntKind.i64 (2 : Int)), S.sc (Value.bool (wv (b1, b2) % (4 : Int) == (3 : Int)))], D.s (S.sc (Value.bool true))]) (bcase (a == (6 : Int)) (bcase (UPlace.placeV (b2, b3).snd == (4 : Int)) (some [D.agg [S.sc (Value.int IntKind.i64 (1 : Int)), S.sc (Value.bool (wv (b1, b2) % (4 : Int) == (3 : Int)))], D.s (S.sc (Value.bool true))]) (some [D.agg [S.sc (Value.int IntKind.i64 (0 : Int)), S.sc (Value.bool false)], D.s (S.sc (Value.bool false))])) (some [D.agg [S.sc (Value.int IntKind.i64 (0 : Int)), S.sc (Value.bool false)], D.s (S.sc (Value.bool false))]))) (bcase (a == (6 : Int)) (bcase (UPlace.placeV (b2, b3).snd == (4 : Int)) (some [D.agg [S.sc (Value.int IntKind.i64 (1 : Int)), S.sc (Value.bool (wv (b1, b2) % (4 : Int) == (3 : Int)))], D.s (S.sc (Value.bool true))]) (some [D.agg [S.sc (Value.int IntKind.i64 (0 : Int)), S.sc (Value.bool false)], D.s (S.sc (Value.bool false))])) (some [D.agg [S.sc (Value.int IntKind.i64 (0 : Int)), S.sc (Value.bool false)], D.s (S.sc (Value.bool false))]))))) (bcase (a == (6 : Int)) (bcase (UPlace.placeV (b2, b3).snd == (3 : Int)) (some [D.agg [S.sc (Value.int IntKind.i64 (2 : Int)), S.sc (Value.bool (wv (b1, b2) % (4 : Int) == (3 : Int)))], D.s (S.sc (Value.bool true))]) (bcase (a == (6 : Int)) (bcase (UPlace.placeV (b2, b3).snd == (4 : Int)) (some [D.agg [S.sc (Value.int IntKind.i64 (1 : Int)), S.sc (Value.bool (wv (b1, b2) % (4 : Int) == (3 : Int)))], D.s (S.sc (Value.bool true))]) (some [D.agg [S.sc (Value.int IntKind.i64 (0 : Int)), S.sc (Value.bool false)], D.s (S.sc (Value.bool false))])) (some [D.agg [S.sc (Value.int IntKind.i64 (0 : Int)), S.sc (Value.bool false)], D.s (S.sc (Value.bool false))]))) (bcase (a == (6 : Int)) (bcase (UPlace.placeV (b2, b3).snd == (4 : Int)) (some [D.agg [S.sc (Value.int IntKind.i64 (1 : Int)), S.sc (Value.bool (wv (b1, b2) % (4 : Int) == (3 : Int)))], D.s (S.sc (Value.bool true))]) (some [D.agg [S.sc (Value.int IntKind.i64 (0 : Int)), S.sc (Value.bool false)], D.s (S.sc (Value.bool false))])) (some [D.agg [S.sc (Value.int IntKind.i64 (0 : Int)), S.sc (Value.bool false)], D.s (S.sc (Value.bool false))])))))
                (bcase (a == (6 : Int)) (bcase (UPlace.placeV (b2, b3).snd == (1 : Int)) (some [D.agg [S.sc (Value.int IntKind.i64 (0 : Int)), S.sc (Value.bool (b1 != (UPlace.placeV (b2, b3).snd == (2 : Int))))], D.s (S.sc (Value.bool true))]) (bcase (UPlace.placeV (b2, b3).snd == (2 : Int)) (some [D.agg [S.sc (Value.int IntKind.i64 (0 : Int)), S.sc (Value.bool (b1 != (UPlace.placeV (b2, b3).snd == (2 : Int))))], D.s (S.sc (Value.bool true))]) (bcase (a == (6 : Int)) (bcase (UPlace.placeV (b2, b3).snd == (3 : Int)) (some [D.agg [S.sc (Value.int IntKind.i64 (2 : Int)), S.sc (Value.bool (wv (b1, b2) % (4 : Int) == (3 : Int)))], D.s (S.sc (Value.bool true))]) (bcase (a == (6 : Int)) (bcase (UPlace.placeV (b2, b3).snd == (4 : Int)) (some [D.agg [S.sc (Value.int IntKind.i64 (1 : Int)), S.sc (Value.bool (wv (b1, b2) % (4 : Int) == (3 : Int)))], D.s (S.sc (Value.bool true))]) (some [D.agg [S.sc (Value.int IntKind.i64 (0 : Int)), S.sc (Value.bool false)], D.s (S.sc (Value.bool false))])) (some [D.agg [S.sc (Value.int IntKind.i64 (0 : Int)), S.sc (Value.bool false)], D.s (S.sc (Value.bool false))]))) (bcase (a == (6 : Int)) (bcase (UPlace.placeV (b2, b3).snd == (4 : Int)) (some [D.agg [S.sc (Value.int IntKind.i64 (1 : Int)), S.sc (Value.bool (wv (b1, b2) % (4 : Int) == (3 : Int)))], D.s (S.sc (Value.bool true))]) (some [D.agg [S.sc (Value.int IntKind.i64 (0 : Int)), S.sc (Value.bool false)], D.s (S.sc (Value.bool false))])) (some [D.agg [S.sc (Value.int IntKind.i64 (0 : Int)), S.sc (Value.bool false)], D.s (S.sc (Value.bool false))]))))) (bcase (a == (6 : Int)) (bcase (UPlace.placeV (b2, b3).snd == (3 : Int)) (some [D.agg [S.sc (Value.int IntKind.i64 (2 : Int)), S.sc (Value.bool (wv (b1, b2) % (4 : Int) == (3 : Int)))], D.s (S.sc (Value.bool true))]) (bcase (a == (6 : Int)) (bcase (UPlace.placeV (b2, b3).snd == (4 : Int)) (some [D.agg [S.sc (Value.int IntKind.i64 (1 : Int)), S.sc (Value.bool (wv (b1, b2) % (4 : Int) == (3 : Int)))], D.s (S.sc (Value.bool true))]) (some [D.agg [S.sc (Value.int IntKind.i64 (0 : Int)), S.sc (Value.bool false)], D.s (S.sc (Value.bool false))])) (some [D.agg [S.sc (Value.int IntKind.i64 (0 : Int)), S.sc (Value.bool false)], D.s (S.sc (Value.bool false))]))) (bcase (a == (6 : Int)) (bcase (UPlace.placeV (b2, b3).snd == (4 : Int)) (some [D.agg [S.sc (Value.int IntKind.i64 (1 : Int)), S.sc (Value.bool (wv (b1, b2) % (4 : Int) == (3 : Int)))], D.s (S.sc (Value.bool true))]) (some [D.agg [S.sc (Value.int IntKind.i64 (0 : Int)), S.sc (Value.bool false)], D.s (S.sc (Value.bool false))])) (some [D.agg [S.sc (Value.int IntKind.i64 (0 : Int)), S.sc (Value.bool false)], D.s (S.sc (Value.bool false))])))))))))
      (bcase (a == (4 : Int))
        (bcase (UPlace.placeV (b2, b3).snd == (3 : Int)) (some [D.agg [S.sc (Value.int IntKind.i64 (1 : Int)), S.sc (Value.bool (wv (b1, b2) % (4 : Int) == (3 : Int)))], D.s (S.sc (Value.bool true))])
          (bcase (a == (5 : Int))
            (bcase (UPlace.placeV (b2, b3).snd == (1 : Int)) (some [D.agg [S.sc (Value.int IntKind.i64 (1 : Int)), S.sc (Value.bool (UPlace.placeV (b2, b3).snd == (2 : Int)))], D.s (S.sc (Value.bool true))])
              (bcase (UPlace.placeV (b2, b3).snd == (2 : Int)) (some [D.agg [S.sc (Value.int IntKind.i64 (1 : Int)), S.sc (Value.bool (UPlace.placeV (b2, b3).snd == (2 : Int)))], D.s (S.sc (Value.bool true))])
                (bcase (a == (5 : Int)) (bcase (UPlace.placeV (b2, b3).snd == (3 : Int)) (some [D.agg [S.sc (Value.int IntKind.i64 (0 : Int)), S.sc (Value.bool false)], D.s (S.sc (Value.bool true))]) (bcase (a == (6 : Int)) (bcase (UPlace.placeV (b2, b3).snd == (1 : Int)) (some [D.agg [S.sc (Value.int IntKind.i64 (0 : Int)), S.sc (Value.bool (b1 != (UPlace.placeV (b2, b3).snd == (2 : Int))))], D.s (S.sc (Value.bool true))]) (bcase (UPlace.placeV (b2, b3).snd == (2 : Int)) (some [D.agg [S.sc (Value.int IntKind.i64 (0 : Int)), S.sc (Value.bool (b1 != (UPlace.placeV (b2, b3).snd == (2 : Int))))], D.s (S.sc (Value.bool true))]) (bcase (a == (6 : Int)) (bcase (UPlace.placeV (b2, b3).snd == (3 : Int)) (some [D.agg [S.sc (Value.int IntKind.i64 (2 : Int)), S.sc (Value.bool (wv (b1, b2) % (4 : Int) == (3 : Int)))], D.s (S.sc (Value.bool true))]) (bcase (a == (6 : Int)) (bcase (UPlace.placeV (b2, b3).snd == (4 : Int)) (some [D.agg [S.sc (Value.int IntKind.i64 (1 : Int)), S.sc (Value.bool (wv (b1, b2) % (4 : Int) == (3 : Int)))], D.s (S.sc (Value.bool true))]) (some [D.agg [S.sc (Value.int IntKind.i64 (0 : Int)), S.sc (Value.bool false)], D.s (S.sc (Value.bool false))])) (some [D.agg [S.sc (Value.int IntKind.i64 (0 : Int)), S.sc (Value.bool false)], D.s (S.sc (Value.bool false))]))) (bcase (a == (6 : Int)) (bcase (UPlace.placeV (b2, b3).snd == (4 : Int)) (some [D.agg [S.sc (Value.int IntKind.i64 (1 : Int)), S.sc (Value.bool (wv (b1, b2) % (4 : Int) == (3 : Int)))], D.s (S.sc (Value.bool true))]) (some [D.agg [S.sc (Value.int IntKind.i64 (0 : Int)), S.sc (Value.bool false)], D.s (S.sc (Value.bool false))])) (some [D.agg [S.sc (Value.int IntKind.i64 (0 : Int)), S.sc (Value.bool false)], D.s (S.sc (Value.bool false))]))))) (bcase (a == (6 : Int)) (bcase (UPlace.placeV (b2, b3).snd == (3 : Int)) (some [D.agg [S.sc (Value.int IntKind.i64 (2 : Int)), S.sc (Value.bool (wv (b1, b2) % (4 : Int) == (3 : Int)))], D.s (S.sc (Value.bool true))]) (bcase (a == (6 : Int)) (bcase (UPlace.placeV (b2, b3).snd == (4 : Int)) (some [D.agg [S.sc (Value.int IntKind.i64 (1 : Int)), S.sc (Value.bool (wv (b1, b2) % (4 : Int) == (3 : Int)))], D.s (S.sc (Value.bool true))]) (some [D.agg [S.sc (Value.int IntKind.i64 (0 : Int)), S.sc (Value.bool false)], D.s (S.sc (Value.bool false))])) (some [D.agg [S.sc (Value.int IntKind.i64 (0 : Int)), S.sc (Value.bool false)], D.s (S.sc (Value.bool false))]))) (bcase (a == (6 : Int)) (bcase (UPlace.placeV (b2, b3).snd == (4 : Int)) (some [D.agg [S.sc (Value.int IntKind.i64 (1 : Int)), S.sc (Value.bool (wv (b1, b2) % (4 : Int) == (3 : Int)))], D.s (S.sc (Value.bool true))]) (some [D.agg [S.sc (Value.int IntKind.i64 (0 : Int)), S.sc (Value.bool false)], D.s (S.sc (Value.bool false))])) (some [D.agg [S.sc (Value.int IntKind.i64 (0 : Int)), S.sc (Value.bool false)], D.s (S.sc (Value.bool false))])))))
                  (bcase (a == (6 : Int)) (bcase (UPlace.placeV (b2, b3).snd == (1 : Int)) (some [D.agg [S.sc (Value.int IntKind.i64 (0 : Int)), S.sc (Value.bool (b1 != (UPlace.placeV (b2, b3).snd == (2 : Int))))], D.s (S.sc (Value.bool true))]) (bcase (UPlace.placeV (b2, b3).snd == (2 : Int)) (some [D.agg [S.sc (Value.int IntKind.i64 (0 : Int)), S.sc (Value.bool (b1 != (UPlace.placeV (b2, b3).snd == (2 : Int))))], D.s (S.sc (Value.bool true))]) (bcase (a == (6 : Int)) (bcase (UPlace.placeV (b2, b3).snd == (3 : Int)) (some [D.agg [S.sc (Value.int IntKind.i64 (2 : Int)), S.sc (Value.bool (wv (b1, b2) % (4 : Int) == (3 : Int)))], D.s (S.sc (Value.bool true))]) (bcase (a == (6 : Int)) (bcase (UPlace.placeV (b2, b3).snd == (4 : Int)) (some [D.agg [S.sc (Value.int IntKind.i64 (1 : Int)), S.sc (Value.bool (wv (b1, b2) % (4 : Int) == (3 : Int)))], D.s (S.sc (Value.bool true))]) (some [D.agg [S.sc (Value.int IntKind.i64 (0 : Int)), S.sc (Value.bool false)], D.s (S.sc (Value.bool false))])) (some [D.agg [S.sc (Value.int IntKind.i64 (0 : Int)), S.sc (Value.bool false)], D.s (S.sc (Value.bool false))]))) (bcase (a == (6 : Int)) (bcase (UPlace.placeV (b2, b3).snd == (4 : Int)) (some [D.agg [S.sc (Value.int IntKind.i64 (1 : Int)), S.sc (Value.bool (wv (b1, b2) % (4 : Int) == (3 : Int)))], D.s (S.sc (Value.bool true))]) (some [D.agg [S.sc (Value.int IntKind.i64 (0 : Int)), S.sc (Value.bool false)], D.s (S.sc (Value.bool false))])) (some [D.agg [S.sc (Value.int IntKind.i64 (0 : Int)), S.sc (Value.bool false)], D.s (S.sc (Value.bool false))]))))) (bcase (a == (6 : Int)) (bcase (UPlace.placeV (b2, b3).snd == (3 : Int)) (some [D.agg [S.sc (Value.int IntKind.i64 (2 : Int)), S.sc (Value.bool (wv (b1, b2) % (4 : Int) == (3 : Int)))], D.s (S.sc (Value.bool true))]) (bcase (a == (6 : Int)) (bcase (UPlace.placeV (b2, b3).snd == (4 : Int)) (some [D.agg [S.sc (Value.int IntKind.i64 (1 : Int)), S.sc (Value.bool (wv (b1, b2) % (4 : Int) == (3 : Int)))], D.s (S.sc (Value.bool true))]) (some [D.agg [S.sc (Value.int IntKind.i64 (0 : Int)), S.sc (Value.bool false)], D.s (S.sc (Value.bool false))])) (some [D.agg [S.sc (Value.int IntKind.i64 (0 : Int)), S.sc (Value.bool false)], D.s (S.sc (Value.bool false))]))) (bcase (a == (6 : Int)) (bcase (UPlace.placeV (b2, b3).snd == (4 : Int)) (some [D.agg [S.sc (Value.int IntKind.i64 (1 : Int)), S.sc (Value.bool (wv (b1, b2) % (4 : Int) == (3 : Int)))], D.s (S.sc (Value.bool true))]) (some [D.agg [S.sc (Value.int IntKind.i64 (0 : Int)), S.sc (Value.bool false)], D.s (S.sc (Value.bool false))])) (some [D.agg [S.sc (Value.int IntKind.i64 (0 : Int)), S.sc (Value.bool false)], D.s (S.sc (Value.bool false))])))))))
            (bcase (a == (5 : Int)) (bcase (UPlace.placeV (b2, b3).snd == (3 : Int)) (some [D.agg [S.sc (Value.int IntKind.i64 (0 : Int)), S.sc (Value.bool false)], D.s (S.sc (Value.bool true))]) (bcase (a == (6 : Int)) (bcase (UPlace.placeV (b2, b3).snd == (1 : Int)) (some [D.agg [S.sc (Value.int IntKind.i64 (0 : Int)), S.sc (Value.bool (b1 != (UPlace.placeV (b2, b3).snd == (2 : Int))))], D.s (S.sc (Value.bool true))]) (bcase (UPlace.placeV (b2, b3).snd == (2 : Int)) (some [D.agg [S.sc (Value.int IntKind.i64 (0 : Int)), S.sc (Value.bool (b1 != (UPlace.placeV (b2, b3).snd == (2 : Int))))], D.s (S.sc (Value.bool true))]) (bcase (a == (6 : Int)) (bcase (UPlace.placeV (b2, b3).snd == (3 : Int)) (some [D.agg [S.sc (Value.int IntKind.i64 (2 : Int)), S.sc (Value.bool (wv (b1, b2) % (4 : Int) == (3 : Int)))], D.s (S.sc (Value.bool true))]) (bcase (a == (6 : Int)) (bcase (UPlace.placeV (b2, b3).snd == (4 : Int)) (some [D.agg [S.sc (Value.int IntKind.i64 (1 : Int)), S.sc (Value.bool (wv (b1, b2) % (4 : Int) == (3 : Int)))], D.s (S.sc (Value.bool true))]) (some [D.agg [S.sc (Value.int IntKind.i64 (0 : Int)), S.sc (Value.bool false)], D.s (S.sc (Value.bool false))])) (some [D.agg [S.sc (Value.int IntKind.i64 (0 : Int)), S.sc (Value.bool false)], D.s (S.sc (Value.bool false))]))) (bcase (a == (6 : Int)) (bcase (UPlace.placeV (b2, b3).snd == (4 : Int)) (some [D.agg [S.sc (Value.int IntKind.i64 (1 : Int)), S.sc (Value.bool (wv (b1, b2) % (4 : Int) == (3 : Int)))], D.s (S.sc (Value.bool true))]) (some [D.agg [S.sc (Value.int IntKind.i64 (0 : Int)), S.sc (Value.bool false)], D.s (S.sc (Value.bool false))])) (some [D.agg [S.sc (Value.int IntKind.i64 (0 : Int)), S.sc (Value.bool false)], D.s (S.sc (Value.bool false))]))))) (bcase (a == (6 : Int)) (bcase (UPlace.placeV (b2, b3).snd == (3 : Int)) (some [D.agg [S.sc (Value.int IntKind.i64 (2 : Int)), S.sc (Value.bool (wv (b1, b2) % (4 : Int) == (3 : Int)))], D.s (S.sc (Value.bool true))]) (bcase (a == (6 : Int)) (bcase (UPlace.placeV (b2, b3).snd == (4 : Int)) (some [D.agg [S.sc (Value.int IntKind.i64 (1 : Int)), S.sc (Value.bool (wv (b1, b2) % (4 : Int) == (3 : Int)))], D.s (S.sc (Value.bool true))]) (some [D.agg [S.sc (Value.int IntKind.i64 (0 : Int)), S.sc (Value.bool false)], D.s (S.sc (Value.bool false))])) (some [D.agg [S.sc (Value.int IntKind.i64 (0 : Int)), S.sc (Value.bool false)], D.s (S.sc (Value.bool false))]))) (bcase (a == (6 : Int)) (bcase (UPlace.placeV (b2, b3).snd == (4 : Int)) (some [D.agg [S.sc (Value.int IntKind.i64 (1 : Int)), S.sc (Value.bool (wv (b1, b2) % (4 : Int) == (3 : Int)))], D.s (S.sc (Value.bool true))]) (some [D.agg [S.sc (Value.int IntKind.i64 (0 : Int)), S.sc (Value.bool false)], D.s (S.sc (Value.bool false))])) (some [D.agg [S.sc (Value.int IntKind.i64 (0 : Int)), S.sc (Value.bool false)], D.s (S.sc (Value.bool false))])))))
              (bcase (a == (6 : Int)) (bcase (UPlace.placeV (b2, b3).snd == (1 : Int)) (some [D.agg [S.sc (Value.int IntKind.i64 (0 : Int)), S.sc (Value.bool (b1 != (UPlace.placeV (b2, b3).snd == (2 : Int))))], D.s (S.sc (Value.bool true))]) (bcase (UPlace.placeV (b2, b3).snd == (2 : Int)) (some [D.agg [S.sc (Value.int IntKind.i64 (0 : Int)), S.sc (Value.bool (b1 != (UPlace.placeV (b2, b3).snd == (2 : Int))))], D.s (S.sc (Value.bool true))]) (bcase (a == (6 : Int)) (bcase (UPlace.placeV (b2, b3).snd == (3 : Int)) (some [D.agg [S.sc (Value.int IntKind.i64 (2 : Int)), S.sc (Value.bool (wv (b1, b2) % (4 : Int) == (3 : Int)))], D.s (S.sc (Value.bool true))]) (bcase (a == (6 : Int)) (bcase (UPlace.placeV (b2, b3).snd == (4 : Int)) (some [D.agg [S.sc (Value.int IntKind.i64 (1 : Int)), S.sc (Value.bool (wv (b1, b2) % (4 : Int) == (3 : Int)))], D.s (S.sc (Value.bool true))]) (some [D.agg [S.sc (Value.int IntKind.i64 (0 : Int)), S.sc (Value.bool false)], D.s (S.sc (Value.bool false))])) (some [D.agg [S.sc (Value.int IntKind.i64 (0 : Int)), S.sc (Value.bool false)], D.s (S.sc (Value.bool false))]))) (bcase (a == (6 : Int)) (bcase (UPlace.placeV (b2, b3).snd == (4 : Int)) (some [D.agg [S.sc (Value.int IntKind.i64 (1 : Int)), S.sc (Value.bool (wv (b1, b2) % (4 : Int) == (3 : Int)))], D.s (S.sc (Value.bool true))]) (some [D.agg [S.sc (Value.int IntKind.i64 (0 : Int)), S.sc (Value.bool false)], D.s (S.sc (Value.bool false))])) (some [D.agg [S.sc (Value.int IntKind.i64 (0 : Int)), S.sc (Value.bool false)], D.s (S.sc (Value.bool false))]))))) (bcase (a == (6 : Int)) (bcase (UPlace.placeV (b2, b3).snd == (3 : Int)) (some [D.agg [S.sc (Value.int IntKind.i64 (2 : Int)), S.sc (Value.bool (wv (b1, b2) % (4 : Int) == (3 : Int)))], D.s (S.sc (Value.bool true))]) (bcase (a == (6 : Int)) (bcase (UPlace.placeV (b2, b3).snd == (4 : Int)) (some [D.agg [S.sc (Value.int IntKind.i64 (1 : Int)), S.sc (Value.bool (wv (b1, b2) % (4 : Int) == (3 : Int)))], D.s (S.sc (Value.bool true))]) (some [D.agg [S.sc (Value.int IntKind.i64 (0 : Int)), S.sc (Value.bool false)], D.s (S.sc (Value.bool false))])) (some [D.agg [S.sc (Value.int IntKind.i64 (0 : Int)), S.sc (Value.bool false)], D.s (S.sc (Value.bool false))]))) (bcase (a == (6 : Int)) (bcase (UPlace.placeV (b2, b3).snd == (4 : Int)) (some [D.agg [S.sc (Value.int IntKind.i64 (1 : Int)), S.sc (Value.bool (wv (b1, b2) % (4 : Int) == (3 : Int)))], D.s (S.sc (Value.bool true))]) (some [D.agg [S.sc (Value.int IntKind.i64 (0 : Int)), S.sc (Value.bool false)], D.s (S.sc (Value.bool false))])) (some [D.agg [S.sc (Value.int IntKind.i64 (0 : Int)), S.sc (Value.bool false)], D.s (S.sc (Value.bool false))])))))))
        (bcase (a == (5 : Int))
          (bcase (UPlace.placeV (b2, b3).snd == (1 : Int)) (some [D.agg [S.sc (Value.int IntKind.i64 (1 : Int)), S.sc (Value.bool (UPlace.placeV (b2, b3).snd == (2 : Int)))], D.s (S.sc (Value.bool true))])
            (bcase (UPlace.placeV (b2, b3).snd == (2 : Int)) (some [D.agg [S.sc (Value.int IntKind.i64 (1 : Int)), S.sc (Value.bool (UPlace.placeV (b2, b3).snd == (2 : Int)))], D.s (S.sc (Value.bool true))])
              (bcase (a == (5 : Int)) (bcase (UPlace.placeV (b2, b3).snd == (3 : Int)) (some [D.agg [S.sc (Value.int IntKind.i64 (0 : Int)), S.sc (Value.bool false)], D.s (S.sc (Value.bool true))]) (bcase (a == (6 : Int)) (bcase (UPlace.placeV (b2, b3).snd == (1 : Int)) (some [D.agg [S.sc (Value.int IntKind.i64 (0 : Int)), S.sc (Value.bool (b1 != (UPlace.placeV (b2, b3).snd == (2 : Int))))], D.s (S.sc (Value.bool true))]) (bcase (UPlace.placeV (b2, b3).snd == (2 : Int)) (some [D.agg [S.sc (Value.int IntKind.i64 (0 : Int)), S.sc (Value.bool (b1 != (UPlace.placeV (b2, b3).snd == (2 : Int))))], D.s (S.sc (Value.bool true))]) (bcase (a == (6 : Int)) (bcase (UPlace.placeV (b2, b3).snd == (3 : Int)) (some [D.agg [S.sc (Value.int IntKind.i64 (2 : Int)), S.sc (Value.bool (wv (b1, b2) % (4 : Int) == (3 : Int)))], D.s (S.sc (Value.bool true))]) (bcase (a == (6 : Int)) (bcase (UPlace.placeV (b2, b3).snd == (4 : Int)) (some [D.agg [S.sc (Value.int IntKind.i64 (1 : Int)), S.sc (Value.bool (wv (b1, b2) % (4 : Int) == (3 : Int)))], D.s (S.sc (Value.bool true))]) (some [D.agg [S.sc (Value.int IntKind.i64 (0 : Int)), S.sc (Value.bool false)], D.s (S.sc (Value.bool false))])) (some [D.agg [S.sc (Value.int IntKind.i64 (0 : Int)), S.sc (Value.bool false)], D.s (S.sc (Value.bool false))]))) (bcase (a == (6 : Int)) (bcase (UPlace.placeV (b2, b3).snd == (4 : Int)) (some [D.agg [S.sc (Value.int IntKind.i64 (1 : Int)), S.sc (Value.bool (wv (b1, b2) % (4 : Int) == (3 : Int)))], D.s (S.sc (Value.bool true))]) (some [D.agg [S.sc (Value.int IntKind.i64 (0 : Int)), S.sc (Value.bool false)], D.s (S.sc (Value.bool false))])) (some [D.agg [S.sc (Value.int IntKind.i64 (0 : Int)), S.sc (Value.bool false)], D.s (S.sc (Value.bool false))]))))) (bcase (a == (6 : Int)) (bcase (UPlace.placeV (b2, b3).snd == (3 : Int)) (some [D.agg [S.sc (Value.int IntKind.i64 (2 : Int)), S.sc (Value.bool (wv (b1, b2) % (4 : Int) == (3 : Int)))], D.s (S.sc (Value.bool true))]) (bcase (a == (6 : Int)) (bcase (UPlace.placeV (b2, b3).snd == (4 : Int)) (some [D.agg [S.sc (Value.int IntKind.i64 (1 : Int)), S.sc (Value.bool (wv (b1, b2) % (4 : Int) == (3 : Int)))], D.s (S.sc (Value.bool true))]) (some [D.agg [S.sc (Value.int IntKind.i64 (0 : Int)), S.sc (Value.bool false)], D.s (S.sc (Value.bool false))])) (some [D.agg [S.sc (Value.int IntKind.i64 (0 : Int)), S.sc (Value.bool false)], D.s (S.sc (Value.bool false))]))) (bcase (a == (6 : Int)) (bcase (UPlace.placeV (b2, b3).snd == (4 : Int)) (some [D.agg [S.sc (Value.int IntKind.i64 (1 : Int)), S.sc (Value.bool (wv (b1, b2) % (4 : Int) == (3 : Int)))], D.s (S.sc (Value.bool true))]) (some [D.agg [S.sc (Value.int IntKind.i64 (0 : Int)), S.sc (Value.bool false)], D.s (S.sc (Value.bool false))])) (some [D.agg [S.sc (Value.int IntKind.i64 (0 : Int)), S.sc (Value.bool false)], D.s (S.sc (Value.bool false))])))))
                (bcase (a == (6 : Int)) (bcase (UPlace.placeV (b2, b3).snd == (1 : Int)) (some [D.agg [S.sc (Value.int IntKind.i64 (0 : Int)), S.sc (Value.bool (b1 != (UPlace.placeV (b2, b3).snd == (2 : Int))))], D.s (S.sc (Value.bool true))]) (bcase (UPlace.placeV (b2, b3).snd == (2 : Int)) (some [D.agg [S.sc (Value.int IntKind.i64 (0 : Int)), S.sc (Value.bool (b1 != (UPlace.placeV (b2, b3).snd == (2 : Int))))], D.s (S.sc (Value.bool true))]) (bcase (a == (6 : Int)) (bcase (UPlace.placeV (b2, b3).snd == (3 : Int)) (some [D.agg [S.sc (Value.int IntKind.i64 (2 : Int)), S.sc (Value.bool (wv (b1, b2) % (4 : Int) == (3 : Int)))], D.s (S.sc (Value.bool true))]) (bcase (a == (6 : Int)) (bcase (UPlace.placeV (b2, b3).snd == (4 : Int)) (some [D.agg [S.sc (Value.int IntKind.i64 (1 : Int)), S.sc (Value.bool (wv (b1, b2) % (4 : Int) == (3 : Int)))], D.s (S.sc (Value.bool true))]) (some [D.agg [S.sc (Value.int IntKind.i64 (0 : Int)), S.sc (Value.bool false)], D.s (S.sc (Value.bool false))])) (some [D.agg [S.sc (Value.int IntKind.i64 (0 : Int)), S.sc (Value.bool false)], D.s (S.sc (Value.bool false))]))) (bcase (a == (6 : Int)) (bcase (UPlace.placeV (b2, b3).snd == (4 : Int)) (some [D.agg [S.sc (Value.int IntKind.i64 (1 : Int)), S.sc (Value.bool (wv (b1, b2) % (4 : Int) == (3 : Int)))], D.s (S.sc (Value.bool true))]) (some [D.agg [S.sc (Value.int IntKind.i64 (0 : Int)), S.sc (Value.bool false)], D.s (S.sc (Value.bool false))])) (some [D.agg [S.sc (Value.int IntKind.i64 (0 : Int)), S.sc (Value.bool false)], D.s (S.sc (Value.bool false))]))))) (bcase (a == (6 : Int)) (bcase (UPlace.placeV (b2, b3).snd == (3 : Int)) (some [D.agg [S.sc (Value.int IntKind.i64 (2 : Int)), S.sc (Value.bool (wv (b1, b2) % (4 : Int) == (3 : Int)))], D.s (S.sc (Value.bool true))]) (bcase (a == (6 : Int)) (bcase (UPlace.placeV (b2, b3).snd == (4 : Int)) (some [D.agg [S.sc (Value.int IntKind.i64 (1 : Int)), S.sc (Value.bool (wv (b1, b2) % (4 : Int) == (3 : Int)))], D.s (S.sc (Value.bool true))]) (some [D.agg [S.sc (Value.int IntKind.i64 (0 : Int)), S.sc (Value.bool false)], D.s (S.sc (Value.bool false))])) (some [D.agg [S.sc (Value.int IntKind.i64 (0 : Int)), S.sc (Value.bool false)], D.s (S.sc (Value.bool false))]))) (bcase (a == (6 : Int)) (bcase (UPlace.placeV (b2, b3).snd == (4 : Int)) (some [D.agg [S.sc (Value.int IntKind.i64 (1 : Int)), S.sc (Value.bool (wv (b1, b2) % (4 : Int) == (3 : Int)))], D.s (S.sc (Value.bool true))]) (some [D.agg [S.sc (Value.int IntKind.i64 (0 : Int)), S.sc (Value.bool false)], D.s (S.sc (Value.bool false))])) (some [D.agg [S.sc (Value.int IntKind.i64 (0 : Int)), S.sc (Value.bool false)], D.s (S.sc (Value.bool false))])))))))
          (bcase (a == (5 : Int)) (bcase (UPlace.placeV (b2, b3).snd == (3 : Int)) (some [D.agg [S.sc (Value.int IntKind.i64 (0 : Int)), S.sc (Value.bool false)], D.s (S.sc (Value.bool true))]) (bcase (a == (6 : Int)) (bcase (UPlace.placeV (b2, b3).snd == (1 : Int)) (some [D.agg [S.sc (Value.int IntKind.i64 (0 : Int)), S.sc (Value.bool (b1 != (UPlace.placeV (b2, b3).snd == (2 : Int))))], D.s (S.sc (Value.bool true))]) (bcase (UPlace.placeV (b2, b3).snd == (2 : Int)) (some [D.agg [S.sc (Value.int IntKind.i64 (0 : Int)), S.sc (Value.bool (b1 != (UPlace.placeV (b2, b3).snd == (2 : Int))))], D.s (S.sc (Value.bool true))]) (bcase (a == (6 : Int)) (bcase (UPlace.placeV (b2, b3).snd == (3 : Int)) (some [D.agg [S.sc (Value.int IntKind.i64 (2 : Int)), S.sc (Value.bool (wv (b1, b2) % (4 : Int) == (3 : Int)))], D.s (S.sc (Value.bool true))]) (bcase (a == (6 : Int)) (bcase (UPlace.placeV (b2, b3).snd == (4 : Int)) (some [D.agg [S.sc (Value.int IntKind.i64 (1 : Int)), S.sc (Value.bool (wv (b1, b2) % (4 : Int) == (3 : Int)))], D.s (S.sc (Value.bool true))]) (some [D.agg [S.sc (Value.int IntKind.i64 (0 : Int)), S.sc (Value.bool false)], D.s (S.sc (Value.bool false))])) (some [D.agg [S.sc (Value.int IntKind.i64 (0 : Int)), S.sc (Value.bool false)], D.s (S.sc (Value.bool false))]))) (bcase (a == (6 : Int)) (bcase (UPlace.placeV (b2, b3).snd == (4 : Int)) (some [D.agg [S.sc (Value.int IntKind.i64 (1 : Int)), S.sc (Value.bool (wv (b1, b2) % (4 : Int) == (3 : Int)))], D.s (S.sc (Value.bool true))]) (some [D.agg [S.sc (Value.int IntKind.i64 (0 : Int)), S.sc (Value.bool false)], D.s (S.sc (Value.bool false))])) (some [D.agg [S.sc (Value.int IntKind.i64 (0 : Int)), S.sc (Value.bool false)], D.s (S.sc (Value.bool false))]))))) (bcase (a == (6 : Int)) (bcase (UPlace.placeV (b2, b3).snd == (3 : Int)) (some [D.agg [S.sc (Value.int IntKind.i64 (2 : Int)), S.sc (Value.bool (wv (b1, b2) % (4 : Int) == (3 : Int)))], D.s (S.sc (Value.bool true))]) (bcase (a == (6 : Int)) (bcase (UPlace.placeV (b2, b3).snd == (4 : Int)) (some [D.agg [S.sc (Value.int IntKind.i64 (1 : Int)), S.sc (Value.bool (wv (b1, b2) % (4 : Int) == (3 : Int)))], D.s (S.sc (Value.bool true))]) (some [D.agg [S.sc (Value.int IntKind.i64 (0 : Int)), S.sc (Value.bool false)], D.s (S.sc (Value.bool false))])) (some [D.agg [S.sc (Value.int IntKind.i64 (0 : Int)), S.sc (Value.bool false)], D.s (S.sc (Value.bool false))]))) (bcase (a == (6 : Int)) (bcase (UPlace.placeV (b2, b3).snd == (4 : Int)) (some [D.agg [S.sc (Value.int IntKind.i64 (1 : Int)), S.sc (Value.bool (wv (b1, b2) % (4 : Int) == (3 : Int)))], D.s (S.sc (Value.bool true))]) (some [D.agg [S.sc (Value.int IntKind.i64 (0 : Int)), S.sc (Value.bool false)], D.s (S.sc (Value.bool false))])) (some [D.agg [S.sc (Value.int IntKind.i64 (0 : Int)), S.sc (Value.bool false)], D.s (S.sc (Value.bool false))])))))
            (bcase (a == (6 : Int)) (bcase (UPlace.placeV (b2, b3).snd == (1 : Int)) (some [D.agg [S.sc (Value.int IntKind.i64 (0 : Int)), S.sc (Value.bool (b1 != (UPlace.placeV (b2, b3).snd == (2 : Int))))], D.s (S.sc (Value.bool true))]) (bcase (UPlace.placeV (b2, b3).snd == (2 : Int)) (some [D.agg [S.sc (Value.int IntKind.i64 (0 : Int)), S.sc (Value.bool (b1 != (UPlace.placeV (b2, b3).snd == (2 : Int))))], D.s (S.sc (Value.bool true))]) (bcase (a == (6 : Int)) (bcase (UPlace.placeV (b2, b3).snd == (3 : Int)) (some [D.agg [S.sc (Value.int IntKind.i64 (2 : Int)), S.sc (Value.bool (wv (b1, b2) % (4 : Int) == (3 : Int)))], D.s (S.sc (Value.bool true))]) (bcase (a == (6 : Int)) (bcase (UPlace.placeV (b2, b3).snd == (4 : Int)) (some [D.agg [S.sc (Value.int IntKind.i64 (1 : Int)), S.sc (Value.bool (wv (b1, b2) % (4 : Int) == (3 : Int)))], D.s (S.sc (Value.bool true))]) (some [D.agg [S.sc (Value.int IntKind.i64 (0 : Int)), S.sc (Value.bool false)], D.s (S.sc (Value.bool false))])) (some [D.agg [S.sc (Value.int IntKind.i64 (0 : Int)), S.sc (Value.bool false)], D.s (S.sc (Value.bool false))]))) (bcase (a == (6 : Int)) (bcase (UPlace.placeV (b2, b3).snd == (4 : Int)) (some [D.agg [S.sc (Value.int IntKind.i64 (1 : Int)), S.sc (Value.bool (wv (b1, b2) % (4 : Int) == (3 : Int)))], D.s (S.sc (Value.bool true))]) (some [D.agg [S.sc (Value.int IntKind.i64 (0 : Int)), S.sc (Value.bool false)], D.s (S.sc (Value.bool false))])) (some [D.agg [S.sc (Value.int IntKind.i64 (0 : Int)), S.sc (Value.bool false)], D.s (S.sc (Value.bool false))]))))) (bcase (a == (6 : Int)) (bcase (UPlace.placeV (b2, b3).snd == (3 : Int)) (some [D.agg [S.sc (Value.int IntKind.i64 (2 : Int)), S.sc (Value.bool (wv (b1, b2) % (4 : Int) == (3 : Int)))], D.s (S.sc (Value.bool true))]) (bcase (a == (6 : Int)) (bcase (UPlace.placeV (b2, b3).snd == (4 : Int)) (some [D.agg [S.sc (Value.int IntKind.i64 (1 : Int)), S.sc (Value.bool (wv (b1, b2) % (4 : Int) == (3 : Int)))], D.s (S.sc (Value.bool true))]) (some [D.agg [S.sc (Value.int IntKind.i64 (0 : Int)), S.sc (Value.bool false)], D.s (S.sc (Value.bool false))])) (some [D.agg [S.sc (Value.int IntKind.i64 (0 : Int)), S.sc (Value.bool false)], D.s (S.sc (Value.bool false))]))) (bcase (a == (6 : Int)) (bcase (UPlace.placeV (b2, b3).snd == (4 : Int)) (some [D.agg [S.sc (Value.int IntKind.i64 (1 : Int)), S.sc (Value.bool (wv (b1, b2) % (4 : Int) == (3 : Int)))], D.s (S.sc (Value.bool true))]) (some [D.agg [S.sc (Value.int IntKind.i64 (0 : Int)), S.sc (Value.bool false)], D.s (S.sc (Value.bool false))])) (some [D.agg [S.sc (Value.int IntKind.i64 (0 : Int)), S.sc (Value.bool false)], D.s (S.sc (Value.bool false))]))))))))) := (evalFn_J rfl nok _).trans (by kernel_rfl)
-- stuck: 0
end UExact0
namespace UExact0
/-- The exact value of a function of pi times x: its size (2: a pole), its sign, whether it has one. -/
def exV (fn : Int) (p : Int × Int) : Int × Bool × Bool :=
  if fn = 4 then (if 0 ≤ p.2 then (0, isNeg p.1, true) else if p.2 = -1 then (1, p.1 % 4 == 3, true) else (0, false, false))
  else if fn = 5 then (if 0 ≤ p.2 then (1, p.2 == 0, true) else if p.2 = -1 then (0, false, true) else (0, false, false))
  else if fn = 6 then (if 0 ≤ p.2 then (0, isNeg p.1 != (p.2 == 0), true) else if p.2 = -1 then (2, p.1 % 4 == 3, true) else if p.2 = -2 then (1, p.1 % 4 == 3, true) else (0, false, false))
  else (0, false, false)
noncomputable def sp (fn : Int) (x : Bool × List Int × Int) : Prop × List D := (DyOk x, [.agg [.sc (.int .i64 (exV fn (dv x)).1), .sc (.bool (exV fn (dv x)).2.1)], .s (.sc (.bool (exV fn (dv x)).2.2))])
theorem spec (fn : Int) (x : Bool × List Int × Int) (h : (sp fn x).1) : evalFn E Tryz.f43 cod [(pN .i64).put fn, (pG (.pair sB (.pair (sI .u64) (sN .i64)))).put x] = some (sp fn x).2 := by
  have h : DyOk x := h
  refine (start fn x.1 x.2.1 x.2.2).trans ((gP trivial).trans ((gP h.wok).trans ?_))
  have hw := h.wok.cells.1
  obtain ⟨b, a, e⟩ := x
  dsimp only at *
  unfold sp exV dv
  dsimp only
  rw [hw]
  generalize wv (b, a) = z
  have hpl : (0 < e ∧ UPlace.placeV e = 1) ∨ (e = 0 ∧ UPlace.placeV e = 2) ∨ (e = -1 ∧ UPlace.placeV e = 3) ∨ (e = -2 ∧ UPlace.placeV e = 4) ∨ (e < -2 ∧ UPlace.placeV e = 0) := by
    unfold UPlace.placeV
    split
    · omega
    · split
      · omega
      · split
        · omega
        · split <;> omega
  generalize UPlace.placeV e = pv at *
  by_cases h4 : fn = 4
  · subst h4
    rcases hpl with ⟨he, rfl⟩ | ⟨rfl, rfl⟩ | ⟨rfl, rfl⟩ | ⟨rfl, rfl⟩ | ⟨he, rfl⟩
    · rw [if_pos rfl, if_pos (by omega)]; rfl
    · rfl
    · rfl
    · rfl
    · rw [if_pos rfl, if_neg (by omega), if_neg (by omega)]; rfl
  · by_cases h5 : fn = 5
    · subst h5
      rcases hpl with ⟨he, rfl⟩ | ⟨rfl, rfl⟩ | ⟨rfl, rfl⟩ | ⟨rfl, rfl⟩ | ⟨he, rfl⟩
      · rw [if_neg (by omega), if_pos rfl, if_pos (by omega), beq_eq_false_iff_ne.2 (show e ≠ 0 by omega)]; rfl
      · rfl
      · rfl
      · rfl
      · rw [if_neg (by omega), if_pos rfl, if_neg (by omega), if_neg (by omega)]; rfl
    · by_cases h6 : fn = 6
      · subst h6
        rcases hpl with ⟨he, rfl⟩ | ⟨rfl, rfl⟩ | ⟨rfl, rfl⟩ | ⟨rfl, rfl⟩ | ⟨he, rfl⟩
        · rw [if_neg (by omega), if_neg (by omega), if_pos rfl, if_pos (by omega), beq_eq_false_iff_ne.2 (show e ≠ 0 by omega)]; rfl
        · rfl
        · rfl
        · rfl
        · rw [if_neg (by omega), if_neg (by omega), if_pos rfl, if_neg (by omega), if_neg (by omega), if_neg (by omega)]; rfl
      · rw [if_neg h4, if_neg h5, if_neg h6]
        simp only [beq_eq_false_iff_ne.2 h4, beq_eq_false_iff_ne.2 h5, beq_eq_false_iff_ne.2 h6, bF]

noncomputable def orc : Orc := orc2 (pN .i64) (pG (.pair sB (.pair (sI .u64) (sN .i64)))) sp
theorem fnok : FnOk Tryz.prog E 43 Tryz.f43 cod := fnOk ty_ok mixed (callsOk_of _ rfl (orcs_cons UPlace.ok (orcs_cons UMod4.ok orcs_nil)) (ext_ok)) Tryz.func43 rfl rfl rfl
theorem ok : OrcOk Tryz.prog base.glob 43 orc := fnok.ok2 rfl spec
end UExact0
end Go.Proofs.YtfebndgmmekmgaaGreatDoor.W

/- gnomon/turn.Exact -/
namespace Go.Proofs.YtfebndgmmekmgaaGreatDoor.W
open Go Go.Proofs.YtfebndgmmekmgaaGreatDoor.AI Go.Proofs.YtfebndgmmekmgaaGreatDoor.M
namespace UExact
noncomputable def E : Env := { ({ base with C := callsOf [(26, BQuiet.orc), (40, UKnown.orc), (41, BClassOf.orc), (42, UPattern.orc), (15, BValue.orc), (43, UExact0.orc)] }) with nt := 67, own := [18, 31, 48, 66], keep := fun k => (tlook [] k).getD [], cut := tlook [(4, [0, 1, 2, 9]), (15, [0, 1, 2])] }
noncomputable def cod : Code := (Go.Proofs.Tryz.f12.body).getD .skip
theorem nok : namesOk E cod = true := by kernel_rfl
noncomputable def J4 (x0 : Int) (x1 : Int) (x2 : Int) (x3 : Int) : Option (List D) := ctO E Go.Proofs.Tryz.f12 cod 4 [(A.v (V.one (L.s (S.sc (Value.int IntKind.i64 x0)))), none), (A.v (V.one (L.s (S.sc (Value.int IntKind.i64 x1)))), none), (A.v (V.one (L.s (S.sc (Value.int IntKind.u64 x2)))), none), (A.v (V.one (L.s (S.sc (Value.int IntKind.u64 x3)))), none)]
noncomputable def J15 (x0 : Int) (x1 : Int) (x2 : Int) : Option (List D) := ctO E Go.Proofs.Tryz.f12 cod 15 [(A.v (V.one (L.s (S.sc (Value.int IntKind.i64 x0)))), none), (A.v (V.one (L.s (S.sc (Value.int IntKind.i64 x1)))), none), (A.v (V.one (L.s (S.sc (Value.int IntKind.u64 x2)))), none)]
theorem start (a : Int) (b : Int) (c : Int) : evalFn E Go.Proofs.Tryz.f12 cod [D.s (S.sc (Value.int IntKind.i64 a)), D.s (S.sc (Value.int IntKind.i64 b)), D.s (S.sc (Value.int IntKind.u64 c))] = gif True (vlet (BShape.shp a).snd.snd.snd fun y0 => vlet (bif BQuiet.fmtB a then (0 : Int) else (1 : Int)) fun y1 => bcase (y1 != (0 : Int)) (some [D.s (S.sc (Value.int IntKind.u64 (0 : Int))), D.s (S.sc (Value.bool false)), D.s (S.sc (Value.int IntKind.i64 (1 : Int)))]) (gif True (bcase (!UKnown.knownB b) (some [D.s (S.sc (Value.int IntKind.u64 (0 : Int))), D.s (S.sc (Value.bool false)), D.s (S.sc (Value.int IntKind.i64 (1 : Int)))]) (UExact.J4 a b c y0)))) := (evalFn_J rfl nok _).trans (by kernel_rfl)
theorem J4_eq (x0 : Int) (x1 : Int) (x2 : Int) (x3 : Int) : J4 x0 x1 x2 x3 = gif ((x0 = (32 : Int) ∨ x0 = (64 : Int)) ∧ (0 : Int) ≤ x2 ∧ x2 < (18446744073709551616 : Int)) (vlet (bif BTake.patB x0 x2 then BClass.classV (BShape.shp x0) (x2 % BSign.signV (BShape.shp x0)) else (0 : Int)) fun y2 => vlet (bif BTake.patB x0 x2 then (0 : Int) else (2 : Int)) fun y3 => bcase (y3 != (0 : Int)) (some [D.s (S.sc (Value.int IntKind.u64 (0 : Int))), D.s (S.sc (Value.bool false)), D.s (S.sc (Value.int IntKind.i64 y3))]) (bcase (y2 == (4 : Int)) (some [D.s (S.sc (Value.int IntKind.u64 x3)), D.s (S.sc (Value.bool true)), D.s (S.sc (Value.int IntKind.i64 (0 : Int)))]) (bcase (y2 == (3 : Int)) (some [D.s (S.sc (Value.int IntKind.u64 x3)), D.s (S.sc (Value.bool true)), D.s (S.sc (Value.int IntKind.i64 (0 : Int)))]) (bcase (y2 == (0 : Int)) (bcase (x1 == (5 : Int)) (gif ((x0 = (32 : Int) ∨ x0 = (64 : Int)) ∧ ((1 : Int) = (0 : Int) ∨ (1 : Int) = (1 : Int) ∨ (1 : Int) = (2 : Int))) (vlet (UPattern.patV x0 (1 : Int) false) fun y4 => some [D.s (S.sc (Value.int IntKind.u64 y4)), D.s (S.sc (Value.bool true)), D.s (S.sc (Value.int IntKind.i64 (0 : Int)))])) (some [D.s (S.sc (Value.int IntKind.u64 x2)), D.s (S.sc (Value.bool true)), D.s (S.sc (Value.int IntKind.i64 (0 : Int)))])) (UExact.J15 x0 x1 x2))))) := (cutAt_J rfl nok 4 _).trans (by kernel_rfl)
theorem J15_eq (x0 : Int) (x1 : Int) (x2 : Int) : J15 x0 x1 x2 = gif ((x0 = (32 : Int) ∨ x0 = (64 : Int)) ∧ (0 : Int) ≤ x2 ∧ x2 < (18446744073709551616 : Int)) (vlet (isNeg (bif BTake.patB x0 x2 && BFinite.finB x0 x2 then nrmD (BValue.valZ x0 x2) (BValue.valE x0 x2) else ((0 : Int), (0 : Int))).fst) fun y5 => vlet (M6.dg (bif BTake.patB x0 x2 && BFinite.finB x0 x2 then nrmD (BValue.valZ x0 x2) (BValue.valE x0 x2) else ((0 : Int), (0 : Int))).fst.natAbs) fun y6 => vlet (bif BTake.patB x0 x2 && BFinite.finB x0 x2 then nrmD (BValue.valZ x0 x2) (BValue.valE x0 x2) else ((0 : Int), (0 : Int))).snd fun y7 => gif (DyOk (y5, y6, y7)) (vlet (UExact0.exV x1 (dv (y5, y6, y7))).fst fun y9 => vlet (UExact0.exV x1 (dv (y5, y6, y7))).snd.fst fun y10 => vlet (UExact0.exV x1 (dv (y5, y6, y7))).snd.snd fun y11 => bcase (!y11) (some [D.s (S.sc (Value.int IntKind.u64 (0 : Int))), D.s (S.sc (Value.bool false)), D.s (S.sc (Value.int IntKind.i64 (0 : Int)))]) (gif ((x0 = (32 : Int) ∨ x0 = (64 : Int)) ∧ ((y9, y10).fst = (0 : Int) ∨ (y9, y10).fst = (1 : Int) ∨ (y9, y10).fst = (2 : Int))) (vlet (UPattern.patV x0 (y9, y10).fst (y9, y10).snd) fun y12 => some [D.s (S.sc (Value.int IntKind.u64 y12)), D.s (S.sc (Value.bool true)), D.s (S.sc (Value.int IntKind.i64 (0 : Int)))])))) := (cutAt_J rfl nok 15 _).trans (by kernel_rfl)
-- stuck: 0
end UExact
namespace UExact
/-- The number of a finite pattern. -/
def numF (f b : Int) : Int × Int := nrmD (BValue.valZ f b) (BValue.valE f b)
theorem numF_pin {f b : Int} (h : f = 32 ∨ f = 64) (_ : 0 ≤ b) (hf : BFinite.finB f b = true) : PIn (numF f b) ∧ (BValue.valZ f b).natAbs < 2 ^ 53 ∧ -1074 ≤ BValue.valE f b ∧ BValue.valE f b ≤ 1023 := by
  have hs := BFinite.two_shp h
  have hn0 : 0 ≤ b % BSign.signV (BShape.shp f) := by unfold BSign.signV; split <;> omega
  have hfin : b % BSign.signV (BShape.shp f) < BInf.infV (BShape.shp f) := of_decide_eq_true hf
  have hm := BValue.man_lt hs hn0
  have hx := BValue.exp_lt hs hn0 hfin
  have hz : (BValue.valZ f b).natAbs < 2 ^ 53 := by
    unfold BValue.valZ
    rw [zs_abs]
    omega
  have he : -1074 ≤ BValue.valE f b ∧ BValue.valE f b ≤ 1023 := ⟨hx.1, by unfold BValue.valE; omega⟩
  have hb : bl (BValue.valZ f b).natAbs ≤ 53 := bl_le.2 hz
  exact ⟨pin_nrm (inD_of (by omega) (by omega)) (by omega), hz, he⟩
/-- Exact's answer. -/
def exactR (f fn b : Int) : Int × Bool × Int :=
  if BQuiet.fmtB f = false ∨ UKnown.knownB fn = false then (0, false, 1)
  else if BTake.patB f b = false then (0, false, 2)
  else if BClass.classV (BShape.shp f) (b % BSign.signV (BShape.shp f)) = 4 ∨ BClass.classV (BShape.shp f) (b % BSign.signV (BShape.shp f)) = 3 then ((BShape.shp f).2.2.2, true, 0)
  else if BClass.classV (BShape.shp f) (b % BSign.signV (BShape.shp f)) = 0 then (if fn = 5 then UPattern.patV f 1 false else b, true, 0)
  else if (UExact0.exV fn (numF f b)).2.2 = true then (UPattern.patV f (UExact0.exV fn (numF f b)).1 (UExact0.exV fn (numF f b)).2.1, true, 0)
  else (0, false, 0)
noncomputable def sp (f fn b : Int) : Prop × List D := (0 ≤ b ∧ b < 18446744073709551616, [.s (.sc (.int .u64 (exactR f fn b).1)), .s (.sc (.bool (exactR f fn b).2.1)), .s (.sc (.int .i64 (exactR f fn b).2.2))])
theorem ex_size (fn : Int) (p : Int × Int) : (UExact0.exV fn p).1 = 0 ∨ (UExact0.exV fn p).1 = 1 ∨ (UExact0.exV fn p).1 = 2 := by
  unfold UExact0.exV
  repeat' split
  all_goals simp
theorem class_fin {f b : Int} (h : f = 32 ∨ f = 64) (c3 : BClass.classV (BShape.shp f) (b % BSign.signV (BShape.shp f)) ≠ 3) (c4 : BClass.classV (BShape.shp f) (b % BSign.signV (BShape.shp f)) ≠ 4) : BFinite.finB f b = true := by
  unfold BFinite.finB
  have hi : BHidden.hidV (BShape.shp f) < BInf.infV (BShape.shp f) ∧ 0 < BHidden.hidV (BShape.shp f) := by
    rcases h with rfl | rfl
    · exact ⟨by show (8388608 : Int) < 2139095040; omega, by show (0 : Int) < 8388608; omega⟩
    · exact ⟨by show (4503599627370496 : Int) < 9218868437227405312; omega, by show (0 : Int) < 4503599627370496; omega⟩
  generalize b % BSign.signV (BShape.shp f) = n at *
  refine decide_eq_true ?_
  unfold BClass.classV at c3 c4
  by_cases h0 : n = 0
  · omega
  · by_cases h1 : n < BHidden.hidV (BShape.shp f)
    · omega
    · by_cases h2 : n < BInf.infV (BShape.shp f)
      · exact h2
      · rw [if_neg h0, if_neg h1, if_neg h2] at c3 c4
        by_cases h3 : n = BInf.infV (BShape.shp f)
        · rw [if_pos h3] at c3; exact (c3 rfl).elim
        · rw [if_neg h3] at c4; exact (c4 rfl).elim
theorem spec (f fn b : Int) (h : (sp f fn b).1) : evalFn E Tryz.f12 cod [(pN .i64).put f, (pN .i64).put fn, (pN .u64).put b] = some (sp f fn b).2 := by
  have h : 0 ≤ b ∧ b < 18446744073709551616 := h
  refine (start f fn b).trans ((gP trivial).trans ?_)
  rw [vl, vl, gP trivial]
  unfold sp exactR
  cases hq : BQuiet.fmtB f with
  | false => rw [if_pos (.inl rfl)]; rfl
  | true =>
    have hf : f = 32 ∨ f = 64 := of_decide_eq_true hq
    rw [cond_true, bN_neg rfl]
    cases hk : UKnown.knownB fn with
    | false => rw [if_pos (.inr rfl)]; rfl
    | true =>
      rw [if_neg (by simp), Bool.not_true, bF, J4_eq, gP ⟨hf, h⟩, vl, vl]
      cases hp : BTake.patB f b with
      | false => rw [if_pos rfl]; rfl
      | true =>
        rw [if_neg (by simp), cond_true, cond_true, bN_neg rfl]
        by_cases c4 : BClass.classV (BShape.shp f) (b % BSign.signV (BShape.shp f)) = 4
        · rw [bE_pos c4, if_pos (.inl c4)]
        · rw [bE_neg c4]
          by_cases c3 : BClass.classV (BShape.shp f) (b % BSign.signV (BShape.shp f)) = 3
          · rw [bE_pos c3, if_pos (.inr c3)]
          · rw [bE_neg c3, if_neg (fun h => h.elim c4 c3)]
            have hfin := class_fin hf c3 c4
            by_cases c0 : BClass.classV (BShape.shp f) (b % BSign.signV (BShape.shp f)) = 0
            · rw [bE_pos c0, if_pos c0]
              by_cases h5 : fn = 5
              · rw [bE_pos h5, if_pos h5, gP ⟨hf, .inr (.inl rfl)⟩]; rfl
              · rw [bE_neg h5, if_neg h5]
            · rw [bE_neg c0, if_neg c0, J15_eq, gP ⟨hf, h⟩]
              have e1 : (bif BTake.patB f b && BFinite.finB f b then nrmD (BValue.valZ f b) (BValue.valE f b) else ((0 : Int), (0 : Int))) = numF f b := by rw [hp, hfin]; rfl
              rw [e1, vl_dy, gP (dyok_of (numF_pin hf h.1 hfin).1), dv_cells, vl, vl, vl]
              cases hv : (UExact0.exV fn (numF f b)).2.2 with
              | false => rw [if_neg (by simp)]; rfl
              | true => rw [if_pos rfl, Bool.not_true, bF, gP ⟨hf, ex_size _ _⟩]; rfl

noncomputable def orc : Orc := orc3 (pN .i64) (pN .i64) (pN .u64) sp
theorem fnok : FnOk Tryz.prog E 12 Tryz.f12 cod := fnOk ty_ok mixed (callsOk_of _ rfl (orcs_cons BQuiet.ok (orcs_cons UKnown.ok (orcs_cons BClassOf.ok (orcs_cons UPattern.ok (orcs_cons BValue.ok (orcs_cons UExact0.ok orcs_nil)))))) (ext_ok)) Tryz.func12 rfl rfl rfl
theorem ok : OrcOk Tryz.prog base.glob 12 orc := fnok.ok3 rfl spec
end UExact
end Go.Proofs.YtfebndgmmekmgaaGreatDoor.W

/- gnomon/gnomonref17.finite -/
namespace Go.Proofs.YtfebndgmmekmgaaGreatDoor.W
open Go Go.Proofs.YtfebndgmmekmgaaGreatDoor.AI Go.Proofs.YtfebndgmmekmgaaGreatDoor.M
namespace Finite17
noncomputable def E : Env := { (base) with nt := 6, own := [], keep := fun k => (tlook [] k).getD [], cut := tlook [] }
noncomputable def cod : Code := (Go.Proofs.Tryz.f35.body).getD .skip
theorem nok : namesOk E cod = true := by kernel_rfl
theorem start (a : Int) : evalFn E Go.Proofs.Tryz.f35 cod [D.s (S.sc (Value.int IntKind.u64 a))] = some [D.s (S.sc (Value.bool (decide (a.tmod (9223372036854775808 : Int) < (9218868437227405312 : Int)))))] := (evalFn_J rfl nok _).trans (by kernel_rfl)
-- stuck: 0
end Finite17
namespace Finite17
noncomputable def sp (b : Int) : Prop × List D := (0 ≤ b ∧ b < 18446744073709551616, [.s (.sc (.bool (BFinite.finB 64 b)))])
theorem spec (b : Int) (h : (sp b).1) : evalFn E Tryz.f35 cod [(pN .u64).put b] = some (sp b).2 := by
  have h : 0 ≤ b ∧ b < 18446744073709551616 := h
  refine (start b).trans ?_
  rw [Int.tmod_eq_emod_of_nonneg h.1]
  rfl

noncomputable def orc : Orc := orc1 (pN .u64) sp
theorem fnok : FnOk Tryz.prog E 35 Tryz.f35 cod := fnOk ty_ok mixed (callsOk_of _ rfl orcs_nil (ext_ok)) Tryz.func35 rfl rfl rfl
theorem ok : OrcOk Tryz.prog base.glob 35 orc := fnok.ok1 rfl spec
end Finite17
end Go.Proofs.YtfebndgmmekmgaaGreatDoor.W

/- gnomon/gnomonref07.Of -/
namespace Go.Proofs.YtfebndgmmekmgaaGreatDoor.W
open Go Go.Proofs.YtfebndgmmekmgaaGreatDoor.AI Go.Proofs.YtfebndgmmekmgaaGreatDoor.M
namespace Of7
noncomputable def E : Env := { (base) with nt := 12, own := [], keep := fun k => (tlook [] k).getD [], cut := tlook [] }
noncomputable def cod : Code := (Go.Proofs.Tryz.f44.body).getD .skip
theorem nok : namesOk E cod = true := by kernel_rfl
theorem start (a : Int) : evalFn E Go.Proofs.Tryz.f44 cod [D.s (S.sc (Value.int IntKind.i64 a))] = bcase (a == (32 : Int)) (some [D.agg [S.sc (Value.int IntKind.u64 (2147483648 : Int)), S.sc (Value.int IntKind.i64 (24 : Int)), S.sc (Value.int IntKind.i64 (-149 : Int)), S.sc (Value.int IntKind.i64 (104 : Int)), S.sc (Value.int IntKind.u64 (2139095040 : Int)), S.sc (Value.int IntKind.u64 (2143289345 : Int))], D.s (S.sc (Value.bool true))]) (bcase (a == (64 : Int)) (some [D.agg [S.sc (Value.int IntKind.u64 (9223372036854775808 : Int)), S.sc (Value.int IntKind.i64 (53 : Int)), S.sc (Value.int IntKind.i64 (-1074 : Int)), S.sc (Value.int IntKind.i64 (971 : Int)), S.sc (Value.int IntKind.u64 (9218868437227405312 : Int)), S.sc (Value.int IntKind.u64 (9221120237041090561 : Int))], D.s (S.sc (Value.bool true))]) (some [D.agg [S.sc (Value.int IntKind.u64 (0 : Int)), S.sc (Value.int IntKind.i64 (0 : Int)), S.sc (Value.int IntKind.i64 (0 : Int)), S.sc (Value.int IntKind.i64 (0 : Int)), S.sc (Value.int IntKind.u64 (0 : Int)), S.sc (Value.int IntKind.u64 (0 : Int))], D.s (S.sc (Value.bool false))])) := (evalFn_J rfl nok _).trans (by kernel_rfl)
-- stuck: 0
end Of7
namespace Of7
def fS (f : Int) : Int := if f = 32 then 2147483648 else if f = 64 then 9223372036854775808 else 0
def fP (f : Int) : Int := if f = 32 then 24 else if f = 64 then 53 else 0
def fE (f : Int) : Int := if f = 32 then -149 else if f = 64 then -1074 else 0
def fG (f : Int) : Int := if f = 32 then 104 else if f = 64 then 971 else 0
def fI (f : Int) : Int := if f = 32 then 2139095040 else if f = 64 then 9218868437227405312 else 0
def fQ (f : Int) : Int := if f = 32 then 2143289345 else if f = 64 then 9221120237041090561 else 0
noncomputable def sp (f : Int) : Prop × List D := (True, [.agg [.sc (.int .u64 (fS f)), .sc (.int .i64 (fP f)), .sc (.int .i64 (fE f)), .sc (.int .i64 (fG f)), .sc (.int .u64 (fI f)), .sc (.int .u64 (fQ f))], .s (.sc (.bool (f == 32 || f == 64)))])
theorem spec (f : Int) (_ : (sp f).1) : evalFn E Tryz.f44 cod [(pN .i64).put f] = some (sp f).2 := by
  refine (start f).trans ?_
  by_cases h1 : f = 32
  · subst h1; rfl
  · by_cases h2 : f = 64
    · subst h2; rfl
    · rw [bE_neg h1, bE_neg h2]
      simp [sp, fS, fP, fE, fG, fI, fQ, h1, h2]

noncomputable def orc : Orc := orc1 (pN .i64) sp
theorem fnok : FnOk Tryz.prog E 44 Tryz.f44 cod := fnOk ty_ok mixed (callsOk_of _ rfl orcs_nil (ext_ok)) Tryz.func44 rfl rfl rfl
theorem ok : OrcOk Tryz.prog base.glob 44 orc := fnok.ok1 rfl spec
end Of7
end Go.Proofs.YtfebndgmmekmgaaGreatDoor.W

/- gnomon/gnomonref07.Cut -/
namespace Go.Proofs.YtfebndgmmekmgaaGreatDoor.W
open Go Go.Proofs.YtfebndgmmekmgaaGreatDoor.AI Go.Proofs.YtfebndgmmekmgaaGreatDoor.M
namespace Cut7
noncomputable def E : Env := { (base) with nt := 14, own := [], keep := fun k => (tlook [] k).getD [], cut := tlook [] }
noncomputable def cod : Code := (Go.Proofs.Tryz.f46.body).getD .skip
theorem nok : namesOk E cod = true := by kernel_rfl
theorem start (a1 : Int) (a2 : Int) (a3 : Int) (a4 : Int) (a5 : Int) (a6 : Int) (b : Int) : evalFn E Go.Proofs.Tryz.f46 cod [D.agg [S.sc (Value.int IntKind.u64 a1), S.sc (Value.int IntKind.i64 a2), S.sc (Value.int IntKind.i64 a3), S.sc (Value.int IntKind.i64 a4), S.sc (Value.int IntKind.u64 a5), S.sc (Value.int IntKind.u64 a6)], D.s (S.sc (Value.int IntKind.u64 b))] = if a1 = (0 : Int) then none else some [D.s (S.sc (Value.bool (decide (a1 ≤ b)))), D.s (S.sc (Value.int IntKind.u64 (b.tmod a1)))] := (evalFn_J rfl nok _).trans (by kernel_rfl)
-- stuck: 0
end Cut7
namespace Cut7
noncomputable def sp (k : K6) (b : Int) : Prop × List D := (IsK k ∧ 0 ≤ b, [.s (.sc (.bool (decide (k.1 ≤ b)))), .s (.sc (.int .u64 (b % k.1)))])
theorem spec (k : K6) (b : Int) (h : (sp k b).1) : evalFn E Tryz.f46 cod [(pG (.pair (sN .u64) (.pair (sN .i64) (.pair (sN .i64) (.pair (sN .i64) (.pair (sN .u64) (sN .u64))))))).put k, (pN .u64).put b] = some (sp k b).2 := by
  refine (start k.1 k.2.1 k.2.2.1 k.2.2.2.1 k.2.2.2.2.1 k.2.2.2.2.2 b).trans ?_
  obtain ⟨hk, hb⟩ := h
  rw [if_neg (by rcases hk with rfl | rfl <;> simp [kf]), Int.tmod_eq_emod_of_nonneg hb]
  rfl

noncomputable def orc : Orc := orc2 (pG (.pair (sN .u64) (.pair (sN .i64) (.pair (sN .i64) (.pair (sN .i64) (.pair (sN .u64) (sN .u64))))))) (pN .u64) sp
theorem fnok : FnOk Tryz.prog E 46 Tryz.f46 cod := fnOk ty_ok mixed (callsOk_of _ rfl orcs_nil (ext_ok)) Tryz.func46 rfl rfl rfl
theorem ok : OrcOk Tryz.prog base.glob 46 orc := fnok.ok2 rfl spec
end Cut7
end Go.Proofs.YtfebndgmmekmgaaGreatDoor.W

/- gnomon/gnomonref07.Parts -/
namespace Go.Proofs.YtfebndgmmekmgaaGreatDoor.W
open Go Go.Proofs.YtfebndgmmekmgaaGreatDoor.AI Go.Proofs.YtfebndgmmekmgaaGreatDoor.M
namespace Parts7
noncomputable def E : Env := { (base) with nt := 33, own := [], keep := fun k => (tlook [] k).getD [], cut := tlook [] }
noncomputable def cod : Code := (Go.Proofs.Tryz.f129.body).getD .skip
theorem nok : namesOk E cod = true := by kernel_rfl
theorem start (a1 : Int) (a2 : Int) (a3 : Int) (a4 : Int) (a5 : Int) (a6 : Int) (b : Int) : evalFn E Go.Proofs.Tryz.f129 cod [D.agg [S.sc (Value.int IntKind.u64 a1), S.sc (Value.int IntKind.i64 a2), S.sc (Value.int IntKind.i64 a3), S.sc (Value.int IntKind.i64 a4), S.sc (Value.int IntKind.u64 a5), S.sc (Value.int IntKind.u64 a6)], D.s (S.sc (Value.int IntKind.u64 b))] = if IntKind.i64.wrap (a2 - (1 : Int)) < (0 : Int) then none else if IntKind.u64.wrap ((1 : Int) * (↑((2 : Nat) ^ min (IntKind.i64.wrap (a2 - (1 : Int))).toNat (64 : Nat)) : Int)) = (0 : Int) then none else if IntKind.u64.wrap ((1 : Int) * (↑((2 : Nat) ^ min (IntKind.i64.wrap (a2 - (1 : Int))).toNat (64 : Nat)) : Int)) = (0 : Int) then none else bcase (IntKind.u64.wrap (b.tdiv (IntKind.u64.wrap ((1 : Int) * (↑((2 : Nat) ^ min (IntKind.i64.wrap (a2 - (1 : Int))).toNat (64 : Nat)) : Int)))) == (0 : Int)) (some [D.s (S.sc (Value.int IntKind.u64 (b.tmod (IntKind.u64.wrap ((1 : Int) * (↑((2 : Nat) ^ min (IntKind.i64.wrap (a2 - (1 : Int))).toNat (64 : Nat)) : Int)))))), D.s (S.sc (Value.int IntKind.i64 a3))]) (some [D.s (S.sc (Value.int IntKind.u64 (IntKind.u64.wrap (IntKind.u64.wrap ((1 : Int) * (↑((2 : Nat) ^ min (IntKind.i64.wrap (a2 - (1 : Int))).toNat (64 : Nat)) : Int)) + b.tmod (IntKind.u64.wrap ((1 : Int) * (↑((2 : Nat) ^ min (IntKind.i64.wrap (a2 - (1 : Int))).toNat (64 : Nat)) : Int))))))), D.s (S.sc (Value.int IntKind.i64 (IntKind.i64.wrap (IntKind.i64.wrap (a3 + IntKind.i64.wrap (IntKind.u64.wrap (b.tdiv (IntKind.u64.wrap ((1 : Int) * (↑((2 : Nat) ^ min (IntKind.i64.wrap (a2 - (1 : Int))).toNat (64 : Nat)) : Int)))))) - (1 : Int)))))]) := (evalFn_J rfl nok _).trans (by kernel_rfl)
-- stuck: 0
end Parts7
namespace Parts7
noncomputable def sp (k : K6) (b : Int) : Prop × List D := (IsK k ∧ 0 ≤ b ∧ b < 9223372036854775808, [.s (.sc (.int .u64 (partM k b.toNat : Nat))), .s (.sc (.int .i64 (kE k + (partX k b.toNat : Nat))))])
theorem kH_t : kH (kf true) = 4503599627370496 := by kernel_rfl
theorem kH_f : kH (kf false) = 8388608 := by kernel_rfl
theorem w_t : IntKind.u64.wrap (1 * ((2 ^ min (IntKind.i64.wrap ((kf true).2.1 - 1)).toNat 64 : Nat) : Int)) = 4503599627370496 := by kernel_rfl
theorem w_f : IntKind.u64.wrap (1 * ((2 ^ min (IntKind.i64.wrap ((kf false).2.1 - 1)).toNat 64 : Nat) : Int)) = 8388608 := by kernel_rfl
theorem n_t : ¬ IntKind.i64.wrap ((kf true).2.1 - 1) < 0 := by rw [wrap_i64 (by simp [kf]) (by simp [kf])]; simp [kf]
theorem n_f : ¬ IntKind.i64.wrap ((kf false).2.1 - 1) < 0 := by rw [wrap_i64 (by simp [kf]) (by simp [kf])]; simp [kf]
theorem gen {k : K6} {h : Nat} (hh : kH k = h) (h1 : 1 < h) (h2 : h < 9007199254740992) (hE : -1074 ≤ kE k ∧ kE k ≤ 0) (b : Int) (hb : 0 ≤ b) (hb' : b < 9223372036854775808) (hn : ¬ IntKind.i64.wrap (k.2.1 - 1) < 0) (hw : IntKind.u64.wrap (1 * ((2 ^ min (IntKind.i64.wrap (k.2.1 - 1)).toNat 64 : Nat) : Int)) = (h : Int)) :
    evalFn E Tryz.f129 cod [(pG (.pair (sN .u64) (.pair (sN .i64) (.pair (sN .i64) (.pair (sN .i64) (.pair (sN .u64) (sN .u64))))))).put k, (pN .u64).put b] = some (sp k b).2 := by
  refine (start k.1 k.2.1 k.2.2.1 k.2.2.2.1 k.2.2.2.2.1 k.2.2.2.2.2 b).trans ?_
  obtain ⟨n, rfl⟩ := Int.eq_ofNat_of_zero_le hb
  have hq : n / h ≤ n := Nat.div_le_self _ _
  have hm : n % h < h := Nat.mod_lt _ (by omega)
  have hq2 : n / h < 4611686018427387904 := by
    apply Nat.div_lt_of_lt_mul
    have : 2 * 4611686018427387904 ≤ h * 4611686018427387904 := Nat.mul_le_mul_right _ (by omega)
    omega
  have e1 : ((n : Int)).tdiv (h : Int) = ((n / h : Nat) : Int) := by rw [Int.tdiv_eq_ediv_of_nonneg hb, Int.natCast_ediv]
  have e2 : ((n : Int)).tmod (h : Int) = ((n % h : Nat) : Int) := by rw [Int.tmod_eq_emod_of_nonneg hb, Int.natCast_emod]
  have hE' : k.2.2.1 = kE k := rfl
  rw [if_neg hn, hw, if_neg (by omega), if_neg (by omega), e1, e2, hE']
  clear e1 e2 hw hn
  unfold sp partM partX
  simp only [hh, Int.toNat_natCast]
  have hz' : n / h = 0 → n % h = n := fun hz => Nat.mod_eq_of_lt ((Nat.div_eq_zero_iff_lt (by omega)).1 hz)
  generalize n / h = q at *
  generalize n % h = r at *
  rw [wrap_u64 (n := (q : Int)) (by omega) (by omega)]
  by_cases hz : q = 0
  · rw [bE_pos (by omega), if_pos hz, hz, hz' hz]
    simp
  · rw [bE_neg (by omega), if_neg hz, wrap_u64 (n := (h : Int) + (r : Int)) (by omega) (by omega), wrap_i64 (n := (q : Int)) (by omega) (by omega), wrap_i64 (n := kE k + (q : Int)) (by omega) (by omega), wrap_i64 (by omega) (by omega)]
    rw [show kE k + (q : Int) - 1 = kE k + ((q - 1 : Nat) : Int) from by omega, Int.natCast_add]
theorem spec (k : K6) (b : Int) (h : (sp k b).1) : evalFn E Tryz.f129 cod [(pG (.pair (sN .u64) (.pair (sN .i64) (.pair (sN .i64) (.pair (sN .i64) (.pair (sN .u64) (sN .u64))))))).put k, (pN .u64).put b] = some (sp k b).2 := by
  obtain ⟨hk, hb, hb'⟩ := h
  rcases hk with rfl | rfl
  · exact gen kH_t (by omega) (by omega) (by simp [kE, kf]) b hb hb' n_t w_t
  · exact gen kH_f (by omega) (by omega) (by simp [kE, kf]) b hb hb' n_f w_f

noncomputable def orc : Orc := orc2 (pG (.pair (sN .u64) (.pair (sN .i64) (.pair (sN .i64) (.pair (sN .i64) (.pair (sN .u64) (sN .u64))))))) (pN .u64) sp
theorem fnok : FnOk Tryz.prog E 129 Tryz.f129 cod := fnOk ty_ok mixed (callsOk_of _ rfl orcs_nil (ext_ok)) Tryz.func129 rfl rfl rfl
theorem ok : OrcOk Tryz.prog base.glob 129 orc := fnok.ok2 rfl spec
end Parts7
end Go.Proofs.YtfebndgmmekmgaaGreatDoor.W

/- gnomon/gnomonref01.Norm -/
namespace Go.Proofs.YtfebndgmmekmgaaGreatDoor.W
open Go Go.Proofs.YtfebndgmmekmgaaGreatDoor.AI Go.Proofs.YtfebndgmmekmgaaGreatDoor.M
namespace Norm
noncomputable def E : Env := { (base) with nt := 27, own := [], keep := fun k => (tlook [(2, [0, 3])] k).getD [], cut := tlook [(4, [0, 3])] }
noncomputable def cod : Code := (Go.Proofs.Tryz.f132.body).getD .skip
theorem nok : namesOk E cod = true := by kernel_rfl
noncomputable def L2 (xs0 : List Int) (x1 : Int) : Option (List D) := lpO E Go.Proofs.Tryz.f132 cod 2 [(A.v (V.one (L.s (S.ints IntKind.u32 xs0))), none), (A.v (V.one (L.s (S.sc (Value.int IntKind.i64 x1)))), none)]
noncomputable def J4 (xs0 : List Int) (x1 : Int) : Option (List D) := ctO E Go.Proofs.Tryz.f132 cod 4 [(A.v (V.one (L.s (S.ints IntKind.u32 xs0))), none), (A.v (V.one (L.s (S.sc (Value.int IntKind.i64 x1)))), none)]
theorem start (a : List Int) : evalFn E Go.Proofs.Tryz.f132 cod [D.s (S.ints IntKind.u32 a)] = Norm.L2 a (↑a.length : Int) := (evalFn_J rfl nok _).trans (by kernel_rfl)
theorem L2_eq (xs0 : List Int) (x1 : Int) : L2 xs0 x1 = bcase (decide ((0 : Int) < x1)) (if (0 : Int) ≤ IntKind.i64.wrap (x1 - (1 : Int)) ∧ IntKind.i64.wrap (x1 - (1 : Int)) < (↑xs0.length : Int) then bcase (xs0.getD (IntKind.i64.wrap (x1 - (1 : Int))).toNat (0 : Int) == (0 : Int)) (Norm.L2 xs0 (IntKind.i64.wrap (x1 - (1 : Int)))) (Norm.J4 xs0 x1) else none) (Norm.J4 xs0 x1) := (loopAt_J rfl nok 2 _).trans (by kernel_rfl)
theorem J4_eq (xs0 : List Int) (x1 : Int) : J4 xs0 x1 = if (0 : Int) ≤ x1 ∧ x1 ≤ x1 ∧ x1 ≤ (8796093022208 : Int) then if (0 : Int) ≤ (0 : Int) ∧ (0 : Int) ≤ x1 ∧ x1 ≤ (↑xs0.length : Int) then some [D.own (180 : Nat) IntKind.u32 (List.take x1.toNat (List.drop (0 : Nat) (List.take x1.toNat xs0)) ++ List.drop (min (List.drop (0 : Nat) (List.take x1.toNat xs0)).length x1.toNat) (List.replicate x1.toNat (0 : Int)))] else none else none := (cutAt_J rfl nok 4 _).trans (by kernel_rfl)
-- stuck: 0
end Norm
namespace Norm
theorem J {xs : List Int} {n : Nat} (h : n ≤ xs.length) (hl : xs.length ≤ 4398046511104) : J4 xs n = some [D.own tU32 .u32 (xs.take n)] := by
  rw [J4_eq, if_pos (by omega), if_pos (by omega)]
  simp only [Int.toNat_natCast]
  rw [copy_all h]

theorem L {xs : List Int} (hd : Dig xs) (hl : xs.length ≤ 4398046511104) : ∀ n : Nat, n ≤ xs.length → L2 xs n = some [D.own tU32 .u32 (dg (val (xs.take n)))]
  | 0, h => by
    rw [L2_eq]
    simp only [bcase, Int.natCast_zero, Int.lt_irrefl, decide_false, cond_false]
    rw [show ((0 : Int)) = ((0 : Nat) : Int) from rfl, J (by omega) hl]
    simp [val, dg_zero]
  | n + 1, h => by
    rw [L2_eq]
    have e : IntKind.i64.wrap (((n + 1 : Nat) : Int) - 1) = (n : Int) := by rw [wrap_i64 (by omega) (by omega)]; omega
    rw [e]
    have e2 : decide ((0 : Int) < ((n + 1 : Nat) : Int)) = true   := by simp
    simp only [bcase, e2, cond_true, Int.toNat_natCast]
    rw [if_pos (by omega)]
    cases hz : xs.getD n 0 == 0 with
    | true =>
      have hz := eq_of_beq hz
      simp only [cond_true]
      rw [L hd hl n (by omega), val_take_succ (by omega), hz]
      simp
    | false =>
      have hz : xs.getD n 0 ≠ 0 := by simpa using hz
      simp only [cond_false]
      rw [J h hl]
      have : Nrm (xs.take (n + 1)) := nrm_of (hd.take _) fun d hg => by
        rw [getLast_take (by omega)] at hg
        cases hg
        exact hz
      rw [← this]

noncomputable def sp (a : List Int) : Prop × List D := (Dig a ∧ a.length ≤ 4398046511104, [.own tU32 .u32 (dg (val a))])
theorem spec (a : List Int) (h : (sp a).1) : evalFn E Tryz.f132 cod [(pI .u32).put a] = some (sp a).2 := by
  obtain ⟨hd, hl⟩ := h
  refine (start a).trans ?_
  rw [L hd hl a.length (Nat.le_refl _), List.take_length]
  rfl

noncomputable def orc : Orc := orc1 (pI .u32) sp
theorem fnok : FnOk Tryz.prog E 132 Tryz.f132 cod := fnOk ty_ok mixed (callsOk_of _ rfl orcs_nil (ext_ok)) Tryz.func132 rfl rfl rfl
theorem ok : OrcOk Tryz.prog base.glob 132 orc := fnok.ok1 rfl spec
end Norm
end Go.Proofs.YtfebndgmmekmgaaGreatDoor.W

/- gnomon/gnomonref01.Word -/
namespace Go.Proofs.YtfebndgmmekmgaaGreatDoor.W
open Go Go.Proofs.YtfebndgmmekmgaaGreatDoor.AI Go.Proofs.YtfebndgmmekmgaaGreatDoor.M
namespace Word
noncomputable def E : Env := { ({ base with C := callsOf [(132, Norm.orc)] }) with nt := 11, own := [10], keep := fun k => (tlook [] k).getD [], cut := tlook [] }
noncomputable def cod : Code := (Go.Proofs.Tryz.f130.body).getD .skip
theorem nok : namesOk E cod = true := by kernel_rfl
theorem start (a : Int) : evalFn E Go.Proofs.Tryz.f130 cod [D.s (S.sc (Value.int IntKind.u64 a))] = gif (Dig [IntKind.u32.wrap (bitsI BinOp.and IntKind.u64 a (4294967295 : Int)), IntKind.u32.wrap (a / (4294967296 : Int))] ∧ [IntKind.u32.wrap (bitsI BinOp.and IntKind.u64 a (4294967295 : Int)), IntKind.u32.wrap (a / (4294967296 : Int))].length ≤ (4398046511104 : Nat)) (some [D.own (180 : Nat) IntKind.u32 (dg (val [IntKind.u32.wrap (bitsI BinOp.and IntKind.u64 a (4294967295 : Int)), IntKind.u32.wrap (a / (4294967296 : Int))]))]) := (evalFn_J rfl nok _).trans (by kernel_rfl)
-- stuck: 0
end Word
namespace Word
noncomputable def sp (w : Int) : Prop × List D := (0 ≤ w ∧ w < 18446744073709551616, [.own tU32 .u32 (dg w.toNat)])
theorem spec (w : Int) (h : (sp w).1) : evalFn E Tryz.f130 cod [(pN .u64).put w] = some (sp w).2 := by
  obtain ⟨h, h'⟩ := h
  refine (start w).trans ?_
  rw [and_mask32 h h', wrap_u32, wrap_u32, gif_pos]
  · unfold sp
    congr 4
    simp only [val]
    omega
  · refine ⟨?_, by simp⟩
    rw [dig_cons, dig_cons]
    exact ⟨by omega, by omega, dig_nil⟩

noncomputable def orc : Orc := orc1 (pN .u64) sp
theorem fnok : FnOk Tryz.prog E 130 Tryz.f130 cod := fnOk ty_ok mixed (callsOk_of _ rfl (orcs_cons Norm.ok orcs_nil) (ext_ok)) Tryz.func130 rfl rfl rfl
theorem ok : OrcOk Tryz.prog base.glob 130 orc := fnok.ok1 rfl spec
end Word
end Go.Proofs.YtfebndgmmekmgaaGreatDoor.W

/- gnomon/gnomonref01.Bit -/
namespace Go.Proofs.YtfebndgmmekmgaaGreatDoor.W
open Go Go.Proofs.YtfebndgmmekmgaaGreatDoor.AI Go.Proofs.YtfebndgmmekmgaaGreatDoor.M
namespace Bit
noncomputable def E : Env := { (base) with nt := 24, own := [], keep := fun k => (tlook [] k).getD [], cut := tlook [(3, [0, 1])] }
noncomputable def cod : Code := (Go.Proofs.Tryz.f139.body).getD .skip
theorem nok : namesOk E cod = true := by kernel_rfl
noncomputable def J3 (xs0 : List Int) (x1 : Int) : Option (List D) := ctO E Go.Proofs.Tryz.f139 cod 3 [(A.v (V.one (L.s (S.ints IntKind.u32 xs0))), none), (A.v (V.one (L.s (S.sc (Value.int IntKind.i64 x1)))), none)]
theorem start (a : List Int) (b : Int) : evalFn E Go.Proofs.Tryz.f139 cod [D.s (S.ints IntKind.u32 a), D.s (S.sc (Value.int IntKind.i64 b))] = bcase (decide (b < (0 : Int))) (some [D.s (S.sc (Value.int IntKind.i64 (0 : Int)))]) (bcase (decide ((↑a.length : Int) ≤ IntKind.i64.wrap (b.tdiv (32 : Int)))) (some [D.s (S.sc (Value.int IntKind.i64 (0 : Int)))]) (Bit.J3 a b)) := (evalFn_J rfl nok _).trans (by kernel_rfl)
theorem J3_eq (xs0 : List Int) (x1 : Int) : J3 xs0 x1 = if (0 : Int) ≤ IntKind.i64.wrap (x1.tdiv (32 : Int)) ∧ IntKind.i64.wrap (x1.tdiv (32 : Int)) < (↑xs0.length : Int) then if x1.tmod (32 : Int) < (0 : Int) then none else some [D.s (S.sc (Value.int IntKind.i64 (IntKind.i64.wrap (bitsI BinOp.and IntKind.u32 (xs0.getD (IntKind.i64.wrap (x1.tdiv (32 : Int))).toNat (0 : Int) / (↑((2 : Nat) ^ min (x1.tmod (32 : Int)).toNat (32 : Nat)) : Int)) (1 : Int)))))] else none := (cutAt_J rfl nok 3 _).trans (by kernel_rfl)
-- stuck: 0
end Bit
namespace Bit
theorem and_one32 {x : Int} (h : 0 ≤ x) (h' : x < 4294967296) : bitsI .and .u32 x 1 = x % 2 := by
  obtain ⟨n, rfl⟩ := Int.eq_ofNat_of_zero_le h
  rw [bitsI_eq]
  unfold bitsI0
  simp only
  have e : (BitVec.ofInt IntKind.u32.bits (n : Int) &&& BitVec.ofInt IntKind.u32.bits 1).toNat = n % 2 := by
    show (BitVec.ofInt 32 (n : Int) &&& BitVec.ofInt 32 1).toNat = _
    rw [BitVec.toNat_and]
    have e1 : (BitVec.ofInt 32 (n : Int)).toNat = n := by simp; omega
    have e2 : (BitVec.ofInt 32 1).toNat = 1 := by decide
    rw [e1, e2, Nat.and_one_is_mod]
  rw [e, wrap_u32]
  omega
noncomputable def sp (a : List Int) (i : Int) : Prop × List D := (Dig a ∧ a.length ≤ 1099511627776 ∧ -9223372036854775808 ≤ i ∧ i < 9223372036854775808, [.s (.sc (.int .i64 (if i < 0 then 0 else ((val a / 2 ^ i.toNat % 2 : Nat) : Int))))])
theorem spec (a : List Int) (i : Int) (h : (sp a i).1) : evalFn E Tryz.f139 cod [(pI .u32).put a, (pN .i64).put i] = some (sp a i).2 := by
  obtain ⟨ha, hl, h1, h2⟩ := h
  refine (start a i).trans ?_
  show _ = some [D.s (.sc (.int .i64 (if i < 0 then 0 else ((val a / 2 ^ i.toNat % 2 : Nat) : Int))))]
  by_cases hn : i < 0
  · rw [bD_pos hn, if_pos hn]
  · have t1 : i.tdiv 32 = i / 32 := Int.tdiv_eq_ediv_of_nonneg (by omega)
    have t2 : i.tmod 32 = i % 32 := Int.tmod_eq_emod_of_nonneg (by omega)
    have e1 : (i / 32).toNat = i.toNat / 32 := by omega
    have e2 : (i % 32).toNat = i.toNat % 32 := by omega
    rw [bD_neg hn, if_neg hn, t1, wrap_i64 (n := i / 32) (by omega) (by omega), pow_split i.toNat, ← Nat.div_div_eq_div_mul]
    by_cases hz : (a.length : Int) ≤ i / 32
    · have hv : val a / 4294967296 ^ (i.toNat / 32) = 0 := by
        apply Nat.div_eq_of_lt
        exact Nat.lt_of_lt_of_le (val_lt ha) (Nat.pow_le_pow_right (by omega) (by omega))
      rw [bD_pos hz, hv, Nat.zero_div]
      rfl
    · have g := ha.get (i.toNat / 32)
      rw [bD_neg hz, J3_eq, t1, t2, wrap_i64 (n := i / 32) (by omega) (by omega), if_pos (by omega), if_neg (by omega), e1, e2, ← val_drop_div ha, val_drop_one]
      have em : min (i.toNat % 32) 32 = i.toNat % 32 := by omega
      have hlt : i.toNat % 32 < 32 := Nat.mod_lt _ (by omega)
      rw [em]
      generalize i.toNat % 32 = k at *
      generalize a.getD (i.toNat / 32) 0 = x at *
      generalize val (a.drop (i.toNat / 32 + 1)) = r at *
      have hp : 0 < 2 ^ k := Nat.pow_pos (by omega)
      have e3 : (x.toNat + 4294967296 * r) / 2 ^ k % 2 = x.toNat / 2 ^ k % 2 := by
        have : 4294967296 * r = 2 ^ k * (2 * (2 ^ (31 - k) * r)) := by
          rw [show (4294967296 : Nat) = 2 ^ 32 from rfl, show 32 = k + (1 + (31 - k)) from by omega, Nat.pow_add, Nat.pow_add, Nat.mul_assoc, Nat.mul_assoc]
        rw [this, Nat.add_mul_div_left _ _ hp]
        omega
      rw [e3]
      have ex : x / ((2 ^ k : Nat) : Int) = ((x.toNat / 2 ^ k : Nat) : Int) := by
        obtain ⟨n, rfl⟩ := Int.eq_ofNat_of_zero_le g.1
        rw [← Int.natCast_ediv]; rfl
      have hle : x.toNat / 2 ^ k ≤ x.toNat := Nat.div_le_self _ _
      rw [ex]
      clear ex e3
      generalize x.toNat / 2 ^ k = q at *
      rw [and_one32 (by omega) (by omega), wrap_i64 (by omega) (by omega)]
      rfl

noncomputable def orc : Orc := orc2 (pI .u32) (pN .i64) sp
theorem fnok : FnOk Tryz.prog E 139 Tryz.f139 cod := fnOk ty_ok mixed (callsOk_of _ rfl orcs_nil (ext_ok)) Tryz.func139 rfl rfl rfl
theorem ok : OrcOk Tryz.prog base.glob 139 orc := fnok.ok2 rfl spec
end Bit
end Go.Proofs.YtfebndgmmekmgaaGreatDoor.W

/- gnomon/gnomonref01.Zeros -/
namespace Go.Proofs.YtfebndgmmekmgaaGreatDoor.W
open Go Go.Proofs.YtfebndgmmekmgaaGreatDoor.AI Go.Proofs.YtfebndgmmekmgaaGreatDoor.M
namespace Zeros
noncomputable def E : Env := { ({ base with C := callsOf [(139, Bit.orc)] }) with nt := 29, own := [], keep := fun k => (tlook [(6, [0, 3]), (4, [0, 3])] k).getD [], cut := tlook [(6, [0, 3])] }
noncomputable def cod : Code := (Go.Proofs.Tryz.f85.body).getD .skip
theorem nok : namesOk E cod = true := by kernel_rfl
noncomputable def L4 (xs0 : List Int) (x1 : Int) : Option (List D) := lpO E Go.Proofs.Tryz.f85 cod 4 [(A.v (V.one (L.s (S.ints IntKind.u32 xs0))), none), (A.v (V.one (L.s (S.sc (Value.int IntKind.i64 x1)))), none)]
noncomputable def J6 (xs0 : List Int) (x1 : Int) : Option (List D) := ctO E Go.Proofs.Tryz.f85 cod 6 [(A.v (V.one (L.s (S.ints IntKind.u32 xs0))), none), (A.v (V.one (L.s (S.sc (Value.int IntKind.i64 x1)))), none)]
noncomputable def L6 (xs0 : List Int) (x1 : Int) : Option (List D) := lpO E Go.Proofs.Tryz.f85 cod 6 [(A.v (V.one (L.s (S.ints IntKind.u32 xs0))), none), (A.v (V.one (L.s (S.sc (Value.int IntKind.i64 x1)))), none)]
theorem start (a : List Int) : evalFn E Go.Proofs.Tryz.f85 cod [D.s (S.ints IntKind.u32 a)] = bcase ((↑a.length : Int) == (0 : Int)) (some [D.s (S.sc (Value.int IntKind.i64 (0 : Int)))]) (Zeros.L4 a (0 : Int)) := (evalFn_J rfl nok _).trans (by kernel_rfl)
theorem L4_eq (xs0 : List Int) (x1 : Int) : L4 xs0 x1 = bcase (decide (IntKind.i64.wrap (x1.tdiv (32 : Int)) < (↑xs0.length : Int))) (if (0 : Int) ≤ IntKind.i64.wrap (x1.tdiv (32 : Int)) ∧ IntKind.i64.wrap (x1.tdiv (32 : Int)) < (↑xs0.length : Int) then bcase (xs0.getD (IntKind.i64.wrap (x1.tdiv (32 : Int))).toNat (0 : Int) == (0 : Int)) (Zeros.L4 xs0 (IntKind.i64.wrap (x1 + (32 : Int)))) (Zeros.J6 xs0 x1) else none) (Zeros.J6 xs0 x1) := (loopAt_J rfl nok 4 _).trans (by kernel_rfl)
theorem J6_eq (xs0 : List Int) (x1 : Int) : J6 xs0 x1 = Zeros.L6 xs0 x1 := (cutAt_J rfl nok 6 _).trans (by kernel_rfl)
theorem L6_eq (xs0 : List Int) (x1 : Int) : L6 xs0 x1 = gif (Dig xs0 ∧ xs0.length ≤ (1099511627776 : Nat) ∧ (-9223372036854775808 : Int) ≤ x1 ∧ x1 < (9223372036854775808 : Int)) (bcase ((if x1 < (0 : Int) then (0 : Int) else (↑(val xs0 / (2 : Nat) ^ x1.toNat % (2 : Nat)) : Int)) == (0 : Int)) (Zeros.L6 xs0 (IntKind.i64.wrap (x1 + (1 : Int)))) (some [D.s (S.sc (Value.int IntKind.i64 x1))])) := (loopAt_J rfl nok 6 _).trans (by kernel_rfl)
-- stuck: 0
end Zeros
namespace Zeros
theorem tz_ge {v k : Nat} (hv : v ≠ 0) (h : v % 2 ^ k = 0) : k ≤ tz v := by
  have hd := Nat.div_add_mod v (2 ^ k)
  rw [h, Nat.add_zero] at hd
  have hq : v / 2 ^ k ≠ 0 := fun hq => by rw [hq, Nat.mul_zero] at hd; omega
  have := tz_mul hq k
  rw [hd] at this
  omega
theorem lp {a : List Int} (ha : Dig a) (hl : a.length ≤ 1099511627776) (hv : val a ≠ 0) (ht : tz (val a) < 70368744177664) : ∀ (d n : Nat), n + d = tz (val a) → L6 a (n : Int) = some [D.s (.sc (.int .i64 ((tz (val a) : Nat) : Int)))] := by
  have hs := tz_spec _ hv
  intro d
  induction d with
  | zero =>
    intro n hd
    have : n = tz (val a) := by omega
    subst this
    rw [L6_eq, gP ⟨ha, hl, by omega, by omega⟩, if_neg (by omega), Int.toNat_natCast, bE_neg (by omega)]
  | succ d ih =>
    intro n hd
    have h0 : val a / 2 ^ n % 2 = 0 := by
      have hdm := Nat.div_add_mod (val a) (2 ^ tz (val a))
      rw [hs.1, Nat.add_zero] at hdm
      have : val a = 2 ^ n * (2 * (2 ^ d * (val a / 2 ^ tz (val a)))) := by
        have e : 2 ^ tz (val a) = 2 ^ n * (2 * 2 ^ d) := by rw [← hd, Nat.pow_add, Nat.pow_succ, Nat.mul_comm (2 ^ d)]
        generalize val a / 2 ^ tz (val a) = q at *
        rw [← Nat.mul_assoc 2, ← Nat.mul_assoc (2 ^ n), ← e]
        exact hdm.symm
      rw [this, Nat.mul_div_cancel_left _ (Nat.pow_pos (by decide))]
      omega
    rw [L6_eq, gP ⟨ha, hl, by omega, by omega⟩, if_neg (by omega), Int.toNat_natCast, h0, bE_pos (show ((0 : Nat) : Int) = 0 from rfl), wrap_i64 (by omega) (by omega)]
    exact ih (n + 1) (by omega)
theorem skip {a : List Int} (ha : Dig a) (hl : a.length ≤ 1099511627776) (hv : val a ≠ 0) (ht : tz (val a) < 70368744177664) : ∀ (d i : Nat), i + d = a.length → val (a.take i) = 0 → L4 a ((32 * i : Nat) : Int) = some [D.s (.sc (.int .i64 ((tz (val a) : Nat) : Int)))] := by
  have key : ∀ i, val (a.take i) = 0 → 32 * i ≤ tz (val a) ∧ i < a.length := by
    intro i h0
    have hlt : i < a.length := by
      rcases Nat.lt_or_ge i a.length with h | h
      · exact h
      · rw [List.take_of_length_le h] at h0; exact (hv h0).elim
    refine ⟨tz_ge hv ?_, hlt⟩
    have h1 := val_take_drop a (n := i) (by omega)
    rw [h0, Nat.zero_add] at h1
    rw [← pow32, h1, Nat.mul_mod_right]
  intro d
  induction d with
  | zero => intro i hd h0; have := key i h0; omega
  | succ d ih =>
    intro i hd h0
    have hk := key i h0
    have t1 : (((32 * i : Nat) : Int)).tdiv 32 = (i : Int) := by rw [Int.tdiv_eq_ediv_of_nonneg (by omega)]; omega
    have g := ha.get i
    rw [L4_eq, t1, wrap_i64 (n := (i : Int)) (by omega) (by omega), bD_pos (by omega), if_pos (by omega), Int.toNat_natCast]
    by_cases hc : a.getD i 0 = 0
    · rw [bE_pos hc, wrap_i64 (by omega) (by omega)]
      have := ih (i + 1) (by omega) (by rw [val_take_one, h0, hc]; simp)
      rw [show ((32 * i : Nat) : Int) + 32 = ((32 * (i + 1) : Nat) : Int) by omega]
      exact this
    · rw [bE_neg hc, J6_eq]
      exact lp ha hl hv ht (tz (val a) - 32 * i) (32 * i) (by omega)
noncomputable def sp (a : List Int) : Prop × List D := (Nrm a ∧ a.length ≤ 1099511627776, [.s (.sc (.int .i64 (if val a = 0 then 0 else ((tz (val a) : Nat) : Int))))])
theorem spec (a : List Int) (h : (sp a).1) : evalFn E Tryz.f85 cod [(pI .u32).put a] = some (sp a).2 := by
  obtain ⟨ha, hl⟩ := h
  refine (start a).trans ?_
  show _ = some [D.s (.sc (.int .i64 (if val a = 0 then 0 else ((tz (val a) : Nat) : Int))))]
  by_cases h0 : a.length = 0
  · rw [bE_pos (by omega), if_pos ((len_zero ha).1 h0)]
  · have hv : val a ≠ 0 := fun h => h0 ((len_zero ha).2 h)
    have ht : tz (val a) < 70368744177664 := by
      have h1 := tz_lt hv
      have h2 := val_lt ha.dig
      rw [pow32] at h2
      have := (Nat.pow_lt_pow_iff_right (by decide : 1 < 2)).1 (Nat.lt_of_le_of_lt h1 h2)
      omega
    rw [bE_neg (by omega), if_neg hv]
    exact skip ha.dig hl hv ht a.length 0 (by omega) (by simp [val])

noncomputable def orc : Orc := orc1 (pI .u32) sp
theorem fnok : FnOk Tryz.prog E 85 Tryz.f85 cod := fnOk ty_ok mixed (callsOk_of _ rfl (orcs_cons Bit.ok orcs_nil) (ext_ok)) Tryz.func85 rfl rfl rfl
theorem ok : OrcOk Tryz.prog base.glob 85 orc := fnok.ok1 rfl spec
end Zeros
end Go.Proofs.YtfebndgmmekmgaaGreatDoor.W

/- gnomon/gnomonref01.DivSmall -/
namespace Go.Proofs.YtfebndgmmekmgaaGreatDoor.W
open Go Go.Proofs.YtfebndgmmekmgaaGreatDoor.AI Go.Proofs.YtfebndgmmekmgaaGreatDoor.M
namespace DivSmall
noncomputable def E : Env := { ({ base with C := callsOf [(132, Norm.orc), (130, Word.orc)] }) with nt := 46, own := [11, 43], keep := fun k => (tlook [(6, [0, 1, 6, 7, 8])] k).getD [], cut := tlook [] }
noncomputable def cod : Code := (Go.Proofs.Tryz.f140.body).getD .skip
theorem nok : namesOk E cod = true := by kernel_rfl
noncomputable def L6 (xs0 : List Int) (x1 : Int) (m2 : Nat) (xs3 : List Int) (x4 : Int) (x5 : Int) : Option (List D) := lpO E Go.Proofs.Tryz.f140 cod 6 [(A.v (V.one (L.s (S.ints IntKind.u32 xs0))), none), (A.v (V.one (L.s (S.sc (Value.int IntKind.u32 x1)))), none), (A.v (V.one (L.buf (2 : Nat) m2)), some { e := (180 : Nat), cont := Cont.ints IntKind.u32 xs3 }), (A.v (V.one (L.s (S.sc (Value.int IntKind.u64 x4)))), none), (A.v (V.one (L.s (S.sc (Value.int IntKind.i64 x5)))), none)]
theorem start (a : List Int) (b : Int) : evalFn E Go.Proofs.Tryz.f140 cod [D.s (S.ints IntKind.u32 a), D.s (S.sc (Value.int IntKind.u32 b))] = bcase (b == (0 : Int)) (gif ((0 : Int) ≤ (0 : Int) ∧ (0 : Int) < (18446744073709551616 : Int)) (some [D.own (180 : Nat) IntKind.u32 (dg (0 : Nat)), D.s (S.sc (Value.int IntKind.u32 (0 : Int)))])) (if (0 : Int) ≤ (↑a.length : Int) ∧ (↑a.length : Int) ≤ (↑a.length : Int) ∧ (↑a.length : Int) ≤ (8796093022208 : Int) then DivSmall.L6 a b (↑a.length : Int).toNat (List.replicate (↑a.length : Int).toNat (0 : Int)) (0 : Int) (IntKind.i64.wrap ((↑a.length : Int) - (1 : Int))) else none) := (evalFn_J rfl nok _).trans (by kernel_rfl)
theorem L6_eq (xs0 : List Int) (x1 : Int) (m2 : Nat) (xs3 : List Int) (x4 : Int) (x5 : Int) : L6 xs0 x1 m2 xs3 x4 x5 = bcase (decide ((0 : Int) ≤ x5)) (if (0 : Int) ≤ x5 ∧ x5 < (↑xs0.length : Int) then if IntKind.u64.wrap x1 = (0 : Int) then none else if (0 : Int) ≤ x5 ∧ x5 < (↑m2 : Int) then if IntKind.u64.wrap x1 = (0 : Int) then none else DivSmall.L6 xs0 x1 m2 (xs3.set x5.toNat (IntKind.u32.wrap (IntKind.u64.wrap ((IntKind.u64.wrap (IntKind.u64.wrap (x4 * (4294967296 : Int)) + IntKind.u64.wrap (xs0.getD x5.toNat (0 : Int)))).tdiv (IntKind.u64.wrap x1))))) ((IntKind.u64.wrap (IntKind.u64.wrap (x4 * (4294967296 : Int)) + IntKind.u64.wrap (xs0.getD x5.toNat (0 : Int)))).tmod (IntKind.u64.wrap x1)) (IntKind.i64.wrap (x5 - (1 : Int))) else none else none) (gif (Dig xs3 ∧ xs3.length ≤ (4398046511104 : Nat)) (some [D.own (180 : Nat) IntKind.u32 (dg (val xs3)), D.s (S.sc (Value.int IntKind.u32 (IntKind.u32.wrap x4)))])) := (loopAt_J rfl nok 6 _).trans (by kernel_rfl)
-- stuck: 0
end DivSmall
namespace DivSmall
theorem L {a : List Int} {w : Int} (ha : Dig a) (hla : a.length ≤ 1099511627776) (hw : 0 < w) (hw' : w < 4294967296) : ∀ (n : Nat) (q : List Int) (l : Int), Dig q → q.length = a.length → 0 ≤ l → l < w → n ≤ a.length →
    L6 a w a.length q l ((n : Int) - 1) = some [D.own tU32 .u32 (dg ((l.toNat * 4294967296 ^ n + val (a.take n)) / w.toNat + 4294967296 ^ n * val (q.drop n))), D.s (.sc (.int .u32 (((l.toNat * 4294967296 ^ n + val (a.take n)) % w.toNat : Nat) : Int)))] := by
  intro n
  induction n with
  | zero =>
    intro q l hq hql h0 h1 hn
    rw [L6_eq, bD_neg (by omega), gP ⟨hq, by omega⟩, wrap_u32]
    simp only [Nat.pow_zero, Nat.mul_one, List.take_zero, val, Nat.add_zero, List.drop_zero, Nat.one_mul]
    rw [Nat.div_eq_of_lt (by omega), Nat.zero_add, Nat.mod_eq_of_lt (by omega)]
    have e0 : l % 4294967296 = ((l.toNat : Nat) : Int) := by omega
    rw [e0]
  | succ n ih =>
    intro q l hq hql h0 h1 hn
    have g1 := ha.get n
    have e : (((n + 1 : Nat) : Int) - 1) = (n : Int) := by omega
    have e' : ((n : Int)).toNat = n := Int.toNat_natCast n
    have hu : wrap_u64 (n := w) (by omega) (by omega) = wrap_u64 (n := w) (by omega) (by omega) := rfl
    rw [e, L6_eq, bD_pos (by omega), if_pos (by omega), e', wrap_u64 (n := w) (by omega) (by omega), if_neg (by omega), if_pos (by omega), if_neg (by omega), wrap_u64 (n := l * 4294967296) (by omega) (by omega),
      wrap_u64 (n := a.getD n 0) (by omega) (by omega), wrap_u64 (n := l * 4294967296 + a.getD n 0) (by omega) (by omega), wrap_i64 (by omega) (by omega)]
    have hs0 : 0 ≤ l * 4294967296 + a.getD n 0 := by omega
    rw [Int.tdiv_eq_ediv_of_nonneg hs0, Int.tmod_eq_emod_of_nonneg hs0]
    have hqb : (l * 4294967296 + a.getD n 0) / w < 4294967296 := Int.ediv_lt_of_lt_mul hw (by
      have : (l + 1) * 4294967296 ≤ w * 4294967296 := Int.mul_le_mul_of_nonneg_right (by omega) (by omega)
      omega)
    have hq0 : 0 ≤ (l * 4294967296 + a.getD n 0) / w := Int.ediv_nonneg hs0 (by omega)
    have hm0 := Int.emod_nonneg (l * 4294967296 + a.getD n 0) (show w ≠ 0 by omega)
    have hm1 := Int.emod_lt_of_pos (l * 4294967296 + a.getD n 0) hw
    rw [wrap_u64 hq0 (by omega), wrap_u32, Int.emod_eq_of_lt hq0 hqb, ih _ _ (dig_set hq ⟨hq0, hqb⟩) (by simpa using hql) hm0 hm1 (by omega), val_drop_set (by omega), val_take_one]
    have hw2 : 0 < w.toNat := by omega
    have d1 : ((l * 4294967296 + a.getD n 0) / w).toNat = (l.toNat * 4294967296 + (a.getD n 0).toNat) / w.toNat := by
      rw [toNat_ediv' hs0 (by omega)]; congr 1; omega
    have d2 : ((l * 4294967296 + a.getD n 0) % w).toNat = (l.toNat * 4294967296 + (a.getD n 0).toNat) % w.toNat := by
      rw [toNat_emod' hs0 (by omega)]; congr 1; omega
    rw [d1, d2, Nat.pow_succ]
    generalize (a.getD n 0).toNat = x at *
    generalize l.toNat = l at *
    generalize val (a.take n) = v at *
    generalize 4294967296 ^ n = B at *
    have e3 : l * (B * 4294967296) + (v + B * x) = (l * 4294967296 + x) * B + v := by
      rw [Nat.add_mul, Nat.mul_comm B 4294967296, ← Nat.mul_assoc, Nat.mul_comm B x]; omega
    rw [e3, div_step hw2, mod_step (l := l) (B := 4294967296) (d := x), Nat.mul_add, Nat.mul_assoc, Nat.add_assoc]

noncomputable def sp (a : List Int) (w : Int) : Prop × List D := (Dig a ∧ a.length ≤ 1099511627776 ∧ (0 < w ∧ w < 4294967296), [.own tU32 .u32 (dg (val a / w.toNat)), .s (.sc (.int .u32 ((val a % w.toNat : Nat) : Int)))])
theorem spec (a : List Int) (w : Int) (h : (sp a w).1) : evalFn E Tryz.f140 cod [(pI .u32).put a, (pN .u32).put w] = some (sp a w).2 := by
  obtain ⟨ha, h1, hw⟩ := h
  refine (start a w).trans ?_
  rw [bE_neg (by omega), if_pos ⟨by omega, by omega, by omega⟩, wrap_i64 (by omega) (by omega), Int.toNat_natCast, L ha h1 hw.1 hw.2 a.length _ 0 (dig_replicate _) (by simp) (by omega) (by omega) (Nat.le_refl _)]
  simp [sp, val]

noncomputable def orc : Orc := orc2 (pI .u32) (pN .u32) sp
theorem fnok : FnOk Tryz.prog E 140 Tryz.f140 cod := fnOk ty_ok mixed (callsOk_of _ rfl (orcs_cons Norm.ok (orcs_cons Word.ok orcs_nil)) (ext_ok)) Tryz.func140 rfl rfl rfl
theorem ok : OrcOk Tryz.prog base.glob 140 orc := fnok.ok2 rfl spec
end DivSmall
end Go.Proofs.YtfebndgmmekmgaaGreatDoor.W

/- gnomon/gnomonref01.Shr -/
namespace Go.Proofs.YtfebndgmmekmgaaGreatDoor.W
open Go Go.Proofs.YtfebndgmmekmgaaGreatDoor.AI Go.Proofs.YtfebndgmmekmgaaGreatDoor.M
namespace Shr
noncomputable def E : Env := { ({ base with C := callsOf [(132, Norm.orc), (130, Word.orc), (140, DivSmall.orc)] }) with nt := 29, own := [10, 16, 25], keep := fun k => (tlook [] k).getD [], cut := tlook [] }
noncomputable def cod : Code := (Go.Proofs.Tryz.f86.body).getD .skip
theorem nok : namesOk E cod = true := by kernel_rfl
theorem start (a : List Int) (b : Int) : evalFn E Go.Proofs.Tryz.f86 cod [D.s (S.ints IntKind.u32 a), D.s (S.sc (Value.int IntKind.i64 b))] = bcase (decide (b ≤ (0 : Int))) (gif (Dig a ∧ a.length ≤ (4398046511104 : Nat)) (some [D.own (180 : Nat) IntKind.u32 (dg (val a))])) (bcase (decide ((↑a.length : Int) ≤ IntKind.i64.wrap (b.tdiv (32 : Int)))) (gif ((0 : Int) ≤ (0 : Int) ∧ (0 : Int) < (18446744073709551616 : Int)) (some [D.own (180 : Nat) IntKind.u32 (dg (0 : Nat))])) (if (0 : Int) ≤ IntKind.i64.wrap (b.tdiv (32 : Int)) ∧ IntKind.i64.wrap (b.tdiv (32 : Int)) ≤ (↑a.length : Int) ∧ (↑a.length : Int) ≤ (↑a.length : Int) then if b.tmod (32 : Int) < (0 : Int) then none else gif (Dig (List.drop (IntKind.i64.wrap (b.tdiv (32 : Int))).toNat (List.take (↑a.length : Int).toNat a)) ∧ (List.drop (IntKind.i64.wrap (b.tdiv (32 : Int))).toNat (List.take (↑a.length : Int).toNat a)).length ≤ (1099511627776 : Nat) ∧ (0 : Int) < IntKind.u32.wrap ((1 : Int) * (↑((2 : Nat) ^ min (b.tmod (32 : Int)).toNat (32 : Nat)) : Int)) ∧ IntKind.u32.wrap ((1 : Int) * (↑((2 : Nat) ^ min (b.tmod (32 : Int)).toNat (32 : Nat)) : Int)) < (4294967296 : Int)) (some [D.own (180 : Nat) IntKind.u32 (dg (val (List.drop (IntKind.i64.wrap (b.tdiv (32 : Int))).toNat (List.take (↑a.length : Int).toNat a)) / (IntKind.u32.wrap ((1 : Int) * (↑((2 : Nat) ^ min (b.tmod (32 : Int)).toNat (32 : Nat)) : Int))).toNat))]) else none)) := (evalFn_J rfl nok _).trans (by kernel_rfl)
-- stuck: 0
end Shr
namespace Shr
noncomputable def sp (a : List Int) (n : Int) : Prop × List D := (Dig a ∧ a.length ≤ 1099511627776 ∧ n < 9223372036854775808, [.own tU32 .u32 (dg (val a / 2 ^ n.toNat))])
theorem spec (a : List Int) (n : Int) (h : (sp a n).1) : evalFn E Tryz.f86 cod [(pI .u32).put a, (pN .i64).put n] = some (sp a n).2 := by
  obtain ⟨ha, h1, h2⟩ := h
  refine (start a n).trans ?_
  show _ = some [D.own tU32 .u32 (dg (val a / 2 ^ n.toNat))]
  by_cases hn : n ≤ 0
  · rw [bD_pos hn, gP ⟨ha, by omega⟩, show n.toNat = 0 from by omega, Nat.pow_zero, Nat.div_one]
  · have e1 : (n % 32).toNat = n.toNat % 32 := by omega
    have e2 : (n / 32).toNat = n.toNat / 32 := by omega
    rw [bD_neg hn, tdiv32 (by omega), tmod32 (by omega), wrap_i64 (n := n / 32) (by omega) (by omega)]
    by_cases hz : (a.length : Int) ≤ n / 32
    · rw [bD_pos hz, gP ⟨by omega, by omega⟩, Nat.div_eq_of_lt]
      rw [pow_split]
      have h3 : val a < 4294967296 ^ (n.toNat / 32) := Nat.lt_of_lt_of_le (val_lt ha) (Nat.pow_le_pow_right (by omega) (by omega))
      have hp0 : 0 < 2 ^ (n.toNat % 32) := Nat.pow_pos (by omega)
      exact Nat.lt_of_lt_of_le h3 (Nat.le_mul_of_pos_right _ hp0)
    · have hp : 2 ^ (n.toNat % 32) < 2 ^ 32 := Nat.pow_lt_pow_right (by omega) (by omega)
      have hp0 : 0 < 2 ^ (n.toNat % 32) := Nat.pow_pos (by omega)
      rw [bD_neg hz, if_pos ⟨by omega, by omega, by omega⟩, if_neg (by omega), shl_wrap (by omega) (by omega), Int.toNat_natCast, List.take_length, e1, e2]
      rw [gP ⟨ha.drop _, by rw [List.length_drop]; omega, by generalize 2 ^ (n.toNat % 32) = p at *; omega⟩, Int.toNat_natCast, val_drop_div ha, div_split]

noncomputable def orc : Orc := orc2 (pI .u32) (pN .i64) sp
theorem fnok : FnOk Tryz.prog E 86 Tryz.f86 cod := fnOk ty_ok mixed (callsOk_of _ rfl (orcs_cons Norm.ok (orcs_cons Word.ok (orcs_cons DivSmall.ok orcs_nil))) (ext_ok)) Tryz.func86 rfl rfl rfl
theorem ok : OrcOk Tryz.prog base.glob 86 orc := fnok.ok2 rfl spec
end Shr
end Go.Proofs.YtfebndgmmekmgaaGreatDoor.W

/- gnomon/gnomonref04.Mk -/
namespace Go.Proofs.YtfebndgmmekmgaaGreatDoor.W
open Go Go.Proofs.YtfebndgmmekmgaaGreatDoor.AI Go.Proofs.YtfebndgmmekmgaaGreatDoor.M
namespace Mk
noncomputable def E : Env := { ({ base with C := callsOf [(132, Norm.orc)] }) with nt := 16, own := [], keep := fun k => (tlook [] k).getD [], cut := tlook [] }
noncomputable def cod : Code := (Go.Proofs.Tryz.f79.body).getD .skip
theorem nok : namesOk E cod = true := by kernel_rfl
theorem start (a : Bool) (b : List Int) : evalFn E Go.Proofs.Tryz.f79 cod [D.s (S.sc (Value.bool a)), D.s (S.ints IntKind.u32 b)] = gif (Dig b ∧ b.length ≤ (4398046511104 : Nat)) (bcase a (some [D.agg [S.sc (Value.bool (decide ((0 : Int) < (↑(dg (val b)).length : Int)))), S.ints IntKind.u32 (dg (val b))]]) (some [D.agg [S.sc (Value.bool false), S.ints IntKind.u32 (dg (val b))]])) := (evalFn_J rfl nok _).trans (by kernel_rfl)
-- stuck: 0
end Mk
namespace Mk
noncomputable def sp (b : Bool) (m : List Int) : Prop × List D := (Dig m ∧ m.length ≤ 4398046511104, [zD (zs b (val m))])
theorem spec (b : Bool) (m : List Int) (h : (sp b m).1) : evalFn E Tryz.f79 cod [pB.put b, (pI .u32).put m] = some (sp b m).2 := by
  refine (start b m).trans ((gP h).trans ?_)
  unfold sp
  simp only [zD_zs]
  cases b with
  | false => rfl
  | true =>
    rw [bT]
    have : decide (0 < ((dg (val m)).length : Int)) = decide (val m ≠ 0) := by
      by_cases h : val m = 0
      · rw [h, dg_zero]; rfl
      · rw [decide_eq_true h, decide_eq_true]
        have : (dg (val m)).length ≠ 0 := fun hh => h (dg_len_zero.1 hh)
        omega
    rw [this]; rfl

noncomputable def orc : Orc := orc2 pB (pI .u32) sp
theorem fnok : FnOk Tryz.prog E 79 Tryz.f79 cod := fnOk ty_ok mixed (callsOk_of _ rfl (orcs_cons Norm.ok orcs_nil) (ext_ok)) Tryz.func79 rfl rfl rfl
theorem ok : OrcOk Tryz.prog base.glob 79 orc := fnok.ok2 rfl spec
end Mk
end Go.Proofs.YtfebndgmmekmgaaGreatDoor.W

/- gnomon/gnomonref17.number -/
namespace Go.Proofs.YtfebndgmmekmgaaGreatDoor.W
open Go Go.Proofs.YtfebndgmmekmgaaGreatDoor.AI Go.Proofs.YtfebndgmmekmgaaGreatDoor.M
namespace Number17
noncomputable def E : Env := { ({ base with C := callsOf [(44, Of7.orc), (46, Cut7.orc), (129, Parts7.orc), (130, Word.orc), (85, Zeros.orc), (86, Shr.orc), (79, Mk.orc)] }) with nt := 47, own := [], keep := fun k => (tlook [] k).getD [], cut := tlook [] }
noncomputable def cod : Code := (Go.Proofs.Tryz.f77.body).getD .skip
theorem nok : namesOk E cod = true := by kernel_rfl
theorem start (a : Int) (b : Int) : evalFn E Go.Proofs.Tryz.f77 cod [D.s (S.sc (Value.int IntKind.i64 a)), D.s (S.sc (Value.int IntKind.u64 b))] = gif True (gif (IsK (Of7.fS a, Of7.fP a, Of7.fE a, Of7.fG a, Of7.fI a, Of7.fQ a) ∧ (0 : Int) ≤ b) (vlet (decide ((Of7.fS a, Of7.fP a, Of7.fE a, Of7.fG a, Of7.fI a, Of7.fQ a).fst ≤ b)) fun y1 => vlet (b % (Of7.fS a, Of7.fP a, Of7.fE a, Of7.fG a, Of7.fI a, Of7.fQ a).fst) fun y2 => gif (IsK (Of7.fS a, Of7.fP a, Of7.fE a, Of7.fG a, Of7.fI a, Of7.fQ a) ∧ (0 : Int) ≤ y2 ∧ y2 < (9223372036854775808 : Int)) (vlet (↑(partM (Of7.fS a, Of7.fP a, Of7.fE a, Of7.fG a, Of7.fI a, Of7.fQ a) y2.toNat) : Int) fun y3 => vlet (kE (Of7.fS a, Of7.fP a, Of7.fE a, Of7.fG a, Of7.fI a, Of7.fQ a) + (↑(partX (Of7.fS a, Of7.fP a, Of7.fE a, Of7.fG a, Of7.fI a, Of7.fQ a) y2.toNat) : Int)) fun y4 => gif ((0 : Int) ≤ y3 ∧ y3 < (18446744073709551616 : Int)) (gif (Nrm (dg y3.toNat) ∧ (dg y3.toNat).length ≤ (1099511627776 : Nat)) (vlet (if val (dg y3.toNat) = (0 : Nat) then (0 : Int) else (↑(tz (val (dg y3.toNat))) : Int)) fun y5 => bcase ((↑(dg y3.toNat).length : Int) == (0 : Int)) (some [D.agg [S.sc (Value.bool false), S.sc (Value.slice none (0 : Nat) (0 : Nat))], D.s (S.sc (Value.int IntKind.i64 (0 : Int)))]) (gif (Dig (dg y3.toNat) ∧ (dg y3.toNat).length ≤ (1099511627776 : Nat) ∧ y5 < (9223372036854775808 : Int)) (vlet (dg (val (dg y3.toNat) / (2 : Nat) ^ y5.toNat)) fun y6 => gif (Dig y6 ∧ y6.length ≤ (4398046511104 : Nat)) (some [D.agg [S.sc (Value.bool (isNeg (zs y1 (val y6)))), S.ints IntKind.u32 (dg (zs y1 (val y6)).natAbs)], D.s (S.sc (Value.int IntKind.i64 (IntKind.i64.wrap (y4 + y5))))])))))))) := (evalFn_J rfl nok _).trans (by kernel_rfl)
-- stuck: 0
end Number17
namespace Number17
theorem man_eq {w : Bool} {n : Int} (h0 : 0 ≤ n) : ((partM (kf w) n.toNat : Nat) : Int) = BParts.manV (BShape.shp (bif w then 64 else 32)) n ∧ kE (kf w) + ((partX (kf w) n.toNat : Nat) : Int) = BParts.expV (BShape.shp (bif w then 64 else 32)) n := by
  obtain ⟨m, rfl⟩ := Int.eq_ofNat_of_zero_le h0
  rw [Int.toNat_natCast]
  unfold partM partX BParts.manV BParts.expV
  cases w with
  | true =>
    rw [Parts7.kH_t, show BHidden.hidV (BShape.shp (bif true then 64 else 32)) = 4503599627370496 from rfl, show (BShape.shp (bif true then 64 else 32)).2.2.1 = -1074 from rfl, show kE (kf true) = -1074 from rfl]
    constructor
    · split <;> split <;> omega
    · split <;> omega
  | false =>
    rw [Parts7.kH_f, show BHidden.hidV (BShape.shp (bif false then 64 else 32)) = 8388608 from rfl, show (BShape.shp (bif false then 64 else 32)).2.2.1 = -149 from rfl, show kE (kf false) = -149 from rfl]
    constructor
    · split <;> split <;> omega
    · split <;> omega
theorem kf_of {f : Int} (h : f = 32 ∨ f = 64) : (Of7.fS f, Of7.fP f, Of7.fE f, Of7.fG f, Of7.fI f, Of7.fQ f) = kf (f == 64) ∧ f = (bif (f == 64) then 64 else 32) ∧ IsK (kf (f == 64)) ∧ (kf (f == 64)).1 = BSign.signV (BShape.shp f) := by
  rcases h with rfl | rfl
  · exact ⟨rfl, rfl, .inr rfl, rfl⟩
  · exact ⟨rfl, rfl, .inl rfl, rfl⟩
noncomputable def sp (f b : Int) : Prop × List D := ((f = 32 ∨ f = 64) ∧ (0 ≤ b ∧ b < 18446744073709551616) ∧ BFinite.finB f b = true, [zD (UExact.numF f b).1, .s (.sc (.int .i64 (UExact.numF f b).2))])
theorem spec (f b : Int) (h : (sp f b).1) : ∃ rs, evalFn E Tryz.f77 cod [(pN .i64).put f, (pN .u64).put b] = some rs ∧ RsLe rs (sp f b).2 := by
  obtain ⟨hf, hb, hfin⟩ := h
  have s := start f b
  obtain ⟨k1, k2, k3, k4⟩ := kf_of hf
  have hn : 0 ≤ b % BSign.signV (BShape.shp f) ∧ b % BSign.signV (BShape.shp f) < 9223372036854775808 := by unfold BSign.signV; split <;> omega
  obtain ⟨m1, m2⟩ := man_eq (w := f == 64) hn.1
  rw [← k2] at m1 m2
  have hs := BFinite.two_shp hf
  have hm := BValue.man_lt hs hn.1
  have hx := BValue.exp_lt hs hn.1 (of_decide_eq_true hfin)
  rw [gP trivial, k1, k4, gP ⟨k3, hb.1⟩, vl, vl, gP ⟨k3, hn⟩, m1, m2, vl, vl, gP ⟨hm.1, by omega⟩] at s
  have e1 : (UExact.numF f b) = nrmD (zs (decide (BSign.signV (BShape.shp f) ≤ b)) (BParts.manV (BShape.shp f) (b % BSign.signV (BShape.shp f))).toNat) (BParts.expV (BShape.shp f) (b % BSign.signV (BShape.shp f))) := rfl
  unfold sp
  dsimp only
  rw [e1]
  generalize BParts.manV (BShape.shp f) (b % BSign.signV (BShape.shp f)) = M at *
  generalize BParts.expV (BShape.shp f) (b % BSign.signV (BShape.shp f)) = X at *
  generalize decide (BSign.signV (BShape.shp f) ≤ b) = neg at *
  obtain ⟨n, rfl⟩ := Int.eq_ofNat_of_zero_le hm.1
  rw [Int.toNat_natCast] at *
  have hl := len_dg_le (n := n) (k := 2) (by omega)
  have hz := dg_len_zero (n := n)
  rw [gP ⟨nrm_dg _, by omega⟩, val_dg, vl] at s
  by_cases h0 : n = 0
  · rw [bE_pos (by omega)] at s
    subst h0
    refine ⟨_, s, ?_⟩
    rw [show zs neg 0 = 0 from zs_zero.2 rfl, nrmD_zero]
    refine .cons ?_ (RsLe.refl _)
    unfold zD
    rw [show ((0, 0) : Int × Int).1.natAbs = 0 from rfl, dg_zero]
    exact RLe.agg (.cons (SLe.refl _) (.cons (SLe.nil _) (CsLe.refl _)))
  · have ht := tz_bl h0
    have hb : bl n ≤ 64 := bl_le.2 (by omega)
    have hd := len_dg_div n (2 ^ tz n)
    rw [bE_neg (by omega), if_neg h0, gP ⟨dig_dg _, by omega, by omega⟩, Int.toNat_natCast, vl, gP ⟨dig_dg _, by omega⟩, val_dg, wrap_i64 (n := X + ((tz n : Nat) : Int)) (by omega) (by omega)] at s
    refine ⟨_, s, ?_⟩
    have hnf : nrmD (zs neg n) X = (zs neg (n / 2 ^ tz n), X + ((tz n : Nat) : Int)) := by
      unfold nrmD
      rw [if_neg (fun h => h0 (zs_zero.1 h)), zs_abs]
      have := zs_div (b := neg) (Nat.pow_pos (n := tz n) (show 0 < 2 by decide)) (tz_spec _ h0).1
      rw [← this]
    rw [hnf]
    exact RsLe.refl _

noncomputable def orc : Orc := orc2 (pN .i64) (pN .u64) sp
theorem fnok : FnOk Tryz.prog E 77 Tryz.f77 cod := fnOk ty_ok mixed (callsOk_of _ rfl (orcs_cons Of7.ok (orcs_cons Cut7.ok (orcs_cons Parts7.ok (orcs_cons Word.ok (orcs_cons Zeros.ok (orcs_cons Shr.ok (orcs_cons Mk.ok orcs_nil))))))) (ext_ok)) Tryz.func77 rfl rfl rfl
theorem ok : OrcOk Tryz.prog base.glob 77 orc := fnok.wk2 rfl spec
end Number17
end Go.Proofs.YtfebndgmmekmgaaGreatDoor.W

/- gnomon/gnomonref01.MulSmall -/
namespace Go.Proofs.YtfebndgmmekmgaaGreatDoor.W
open Go Go.Proofs.YtfebndgmmekmgaaGreatDoor.AI Go.Proofs.YtfebndgmmekmgaaGreatDoor.M
namespace MulSmall
noncomputable def E : Env := { ({ base with C := callsOf [(132, Norm.orc)] }) with nt := 46, own := [45], keep := fun k => (tlook [(4, [0, 1, 7, 8, 9])] k).getD [], cut := tlook [] }
noncomputable def cod : Code := (Go.Proofs.Tryz.f174.body).getD .skip
theorem nok : namesOk E cod = true := by kernel_rfl
noncomputable def L4 (xs0 : List Int) (x1 : Int) (m2 : Nat) (xs3 : List Int) (x4 : Int) (x5 : Int) : Option (List D) := lpO E Go.Proofs.Tryz.f174 cod 4 [(A.v (V.one (L.s (S.ints IntKind.u32 xs0))), none), (A.v (V.one (L.s (S.sc (Value.int IntKind.u32 x1)))), none), (A.v (V.one (L.buf (2 : Nat) m2)), some { e := (180 : Nat), cont := Cont.ints IntKind.u32 xs3 }), (A.v (V.one (L.s (S.sc (Value.int IntKind.u64 x4)))), none), (A.v (V.one (L.s (S.sc (Value.int IntKind.i64 x5)))), none)]
theorem start (a : List Int) (b : Int) (c : Int) : evalFn E Go.Proofs.Tryz.f174 cod [D.s (S.ints IntKind.u32 a), D.s (S.sc (Value.int IntKind.u32 b)), D.s (S.sc (Value.int IntKind.u32 c))] = if (0 : Int) ≤ (0 : Int) ∧ (0 : Int) ≤ IntKind.i64.wrap ((↑a.length : Int) + (1 : Int)) ∧ IntKind.i64.wrap ((↑a.length : Int) + (1 : Int)) ≤ (8796093022208 : Int) then MulSmall.L4 a b (0 : Nat) (List.replicate (0 : Nat) (0 : Int)) (IntKind.u64.wrap c) (0 : Int) else none := (evalFn_J rfl nok _).trans (by kernel_rfl)
theorem L4_eq (xs0 : List Int) (x1 : Int) (m2 : Nat) (xs3 : List Int) (x4 : Int) (x5 : Int) : L4 xs0 x1 m2 xs3 x4 x5 = bcase (decide (x5 < (↑xs0.length : Int))) (if (0 : Int) ≤ x5 ∧ x5 < (↑xs0.length : Int) then if (0 : Nat) < [IntKind.u32.wrap (bitsI BinOp.and IntKind.u64 (IntKind.u64.wrap (x4 + IntKind.u64.wrap (IntKind.u64.wrap (xs0.getD x5.toNat (0 : Int)) * IntKind.u64.wrap x1))) (4294967295 : Int))].length ∧ (↑(xs3.length + [IntKind.u32.wrap (bitsI BinOp.and IntKind.u64 (IntKind.u64.wrap (x4 + IntKind.u64.wrap (IntKind.u64.wrap (xs0.getD x5.toNat (0 : Int)) * IntKind.u64.wrap x1))) (4294967295 : Int))].length) : Int) ≤ (8796093022208 : Int) then MulSmall.L4 xs0 x1 (xs3.length + [IntKind.u32.wrap (bitsI BinOp.and IntKind.u64 (IntKind.u64.wrap (x4 + IntKind.u64.wrap (IntKind.u64.wrap (xs0.getD x5.toNat (0 : Int)) * IntKind.u64.wrap x1))) (4294967295 : Int))].length) (xs3 ++ [IntKind.u32.wrap (bitsI BinOp.and IntKind.u64 (IntKind.u64.wrap (x4 + IntKind.u64.wrap (IntKind.u64.wrap (xs0.getD x5.toNat (0 : Int)) * IntKind.u64.wrap x1))) (4294967295 : Int))]) (IntKind.u64.wrap (x4 + IntKind.u64.wrap (IntKind.u64.wrap (xs0.getD x5.toNat (0 : Int)) * IntKind.u64.wrap x1)) / (4294967296 : Int)) (IntKind.i64.wrap (x5 + (1 : Int))) else none else none) (if (0 : Nat) < [IntKind.u32.wrap x4].length ∧ (↑(xs3.length + [IntKind.u32.wrap x4].length) : Int) ≤ (8796093022208 : Int) then gif (Dig (xs3 ++ [IntKind.u32.wrap x4]) ∧ (xs3 ++ [IntKind.u32.wrap x4]).length ≤ (4398046511104 : Nat)) (some [D.own (180 : Nat) IntKind.u32 (dg (val (xs3 ++ [IntKind.u32.wrap x4])))]) else none) := (loopAt_J rfl nok 4 _).trans (by kernel_rfl)
-- stuck: 0
end MulSmall
namespace MulSmall
theorem L {a : List Int} {w : Int} (ha : Dig a) (hla : a.length ≤ 1099511627776) (hw : 0 ≤ w) (hw' : w < 4294967296) {r : Nat} : ∀ (d i : Nat) (xs : List Int) (c : Int), Dig xs → xs.length = i → 0 ≤ c → c < 4294967296 →
    i + d = a.length → val xs + 4294967296 ^ i * c.toNat = val (a.take i) * w.toNat + r →
    L4 a w i xs c i = some [D.own tU32 .u32 (dg (val a * w.toNat + r))] := by
  intro d
  induction d with
  | zero =>
    intro i xs c hx hxl h0 h1 hd hv
    rw [L4_eq, bD_neg (by omega), if_pos ⟨by simp, by simp; omega⟩, wrap_u32, Int.emod_eq_of_lt h0 h1, gP ⟨dig_push hx ⟨h0, h1⟩, by simp; omega⟩, val_push, hxl, hv, val_take_ge (by omega)]
  | succ d ih =>
    intro i xs c hx hxl h0 h1 hd hv
    have g1 := ha.get i
    have e' : ((i : Int)).toNat = i := Int.toNat_natCast i
    have hm : a.getD i 0 * w ≤ 4294967295 * 4294967295 := by
      have h1 : a.getD i 0 * w ≤ 4294967295 * w := Int.mul_le_mul_of_nonneg_right (by omega) hw
      have h2 : (4294967295 : Int) * w ≤ 4294967295 * 4294967295 := Int.mul_le_mul_of_nonneg_left (by omega) (by omega)
      omega
    have hm0 : 0 ≤ a.getD i 0 * w := Int.mul_nonneg g1.1 hw
    rw [L4_eq, bD_pos (by omega), if_pos (by omega), e', wrap_u64 (n := a.getD i 0) (by omega) (by omega), wrap_u64 (n := w) (by omega) (by omega), wrap_u64 (n := a.getD i 0 * w) (by omega) (by omega), wrap_u64 (by omega) (by omega),
      and_mask32 (by omega) (by omega), if_pos ⟨by simp, by simp; omega⟩, wrap_u32, Int.emod_emod_of_dvd _ (Int.dvd_refl _), wrap_i64 (by omega) (by omega), hxl]
    show L4 a w (i + 1) _ _ ((i + 1 : Nat) : Int) = _
    refine ih (i + 1) _ _ (dig_push hx (by omega)) (by simp [hxl]) (by omega) (by omega) (by omega) ?_
    rw [val_push, val_take_one, hxl, Nat.pow_succ, Nat.mul_assoc, Nat.add_mul]
    have et : (a.getD i 0 * w).toNat = (a.getD i 0).toNat * w.toNat := Int.toNat_mul g1.1 hw
    have e : 4294967296 * ((c + a.getD i 0 * w) / 4294967296).toNat + ((c + a.getD i 0 * w) % 4294967296).toNat = c.toNat + (a.getD i 0).toNat * w.toNat := by rw [← et]; omega
    generalize a.getD i 0 = x at *
    generalize 4294967296 ^ i = B at *
    have e2 : B * (4294967296 * ((c + x * w) / 4294967296).toNat) + B * ((c + x * w) % 4294967296).toNat = B * c.toNat + B * (x.toNat * w.toNat) := by
      rw [← Nat.mul_add, e, Nat.mul_add]
    rw [Nat.mul_assoc]
    omega

noncomputable def sp (a : List Int) (w c : Int) : Prop × List D := (Dig a ∧ a.length ≤ 1099511627776 ∧ (0 ≤ w ∧ w < 4294967296) ∧ (0 ≤ c ∧ c < 4294967296), [.own tU32 .u32 (dg (val a * w.toNat + c.toNat))])
theorem spec (a : List Int) (w c : Int) (h : (sp a w c).1) : evalFn E Tryz.f174 cod [(pI .u32).put a, (pN .u32).put w, (pN .u32).put c] = some (sp a w c).2 := by
  obtain ⟨ha, h1, hw, hc⟩ := h
  refine (start a w c).trans ?_
  rw [wrap_i64 (by omega) (by omega), if_pos ⟨by omega, by omega, by omega⟩, wrap_u64 (by omega) (by omega)]
  exact L ha h1 hw.1 hw.2 a.length 0 [] c dig_nil rfl hc.1 hc.2 (by omega) (by simp [val])

noncomputable def orc : Orc := orc3 (pI .u32) (pN .u32) (pN .u32) sp
theorem fnok : FnOk Tryz.prog E 174 Tryz.f174 cod := fnOk ty_ok mixed (callsOk_of _ rfl (orcs_cons Norm.ok orcs_nil) (ext_ok)) Tryz.func174 rfl rfl rfl
theorem ok : OrcOk Tryz.prog base.glob 174 orc := fnok.ok3 rfl spec
end MulSmall
end Go.Proofs.YtfebndgmmekmgaaGreatDoor.W

/- gnomon/gnomonref01.Shl -/
namespace Go.Proofs.YtfebndgmmekmgaaGreatDoor.W
open Go Go.Proofs.YtfebndgmmekmgaaGreatDoor.AI Go.Proofs.YtfebndgmmekmgaaGreatDoor.M
namespace Shl
noncomputable def E : Env := { ({ base with C := callsOf [(132, Norm.orc), (174, MulSmall.orc)] }) with nt := 32, own := [14, 31], keep := fun k => (tlook [] k).getD [], cut := tlook [(3, [0, 1])] }
noncomputable def cod : Code := (Go.Proofs.Tryz.f131.body).getD .skip
theorem nok : namesOk E cod = true := by kernel_rfl
noncomputable def J3 (xs0 : List Int) (x1 : Int) : Option (List D) := ctO E Go.Proofs.Tryz.f131 cod 3 [(A.v (V.one (L.s (S.ints IntKind.u32 xs0))), none), (A.v (V.one (L.s (S.sc (Value.int IntKind.i64 x1)))), none)]
theorem start (a : List Int) (b : Int) : evalFn E Go.Proofs.Tryz.f131 cod [D.s (S.ints IntKind.u32 a), D.s (S.sc (Value.int IntKind.i64 b))] = bcase (decide (b ≤ (0 : Int))) (gif (Dig a ∧ a.length ≤ (4398046511104 : Nat)) (some [D.own (180 : Nat) IntKind.u32 (dg (val a))])) (bcase ((↑a.length : Int) == (0 : Int)) (gif (Dig a ∧ a.length ≤ (4398046511104 : Nat)) (some [D.own (180 : Nat) IntKind.u32 (dg (val a))])) (Shl.J3 a b)) := (evalFn_J rfl nok _).trans (by kernel_rfl)
theorem J3_eq (xs0 : List Int) (x1 : Int) : J3 xs0 x1 = if (0 : Int) ≤ IntKind.i64.wrap (x1.tdiv (32 : Int)) ∧ IntKind.i64.wrap (x1.tdiv (32 : Int)) ≤ IntKind.i64.wrap (IntKind.i64.wrap (IntKind.i64.wrap (x1.tdiv (32 : Int)) + (↑xs0.length : Int)) + (1 : Int)) ∧ IntKind.i64.wrap (IntKind.i64.wrap (IntKind.i64.wrap (x1.tdiv (32 : Int)) + (↑xs0.length : Int)) + (1 : Int)) ≤ (8796093022208 : Int) then if x1.tmod (32 : Int) < (0 : Int) then none else gif (Dig xs0 ∧ xs0.length ≤ (1099511627776 : Nat) ∧ ((0 : Int) ≤ IntKind.u32.wrap ((1 : Int) * (↑((2 : Nat) ^ min (x1.tmod (32 : Int)).toNat (32 : Nat)) : Int)) ∧ IntKind.u32.wrap ((1 : Int) * (↑((2 : Nat) ^ min (x1.tmod (32 : Int)).toNat (32 : Nat)) : Int)) < (4294967296 : Int)) ∧ (0 : Int) ≤ (0 : Int) ∧ (0 : Int) < (4294967296 : Int)) (if (0 : Nat) < (dg (val xs0 * (IntKind.u32.wrap ((1 : Int) * (↑((2 : Nat) ^ min (x1.tmod (32 : Int)).toNat (32 : Nat)) : Int))).toNat + (0 : Nat))).length ∧ (↑((List.replicate (IntKind.i64.wrap (x1.tdiv (32 : Int))).toNat (0 : Int)).length + (dg (val xs0 * (IntKind.u32.wrap ((1 : Int) * (↑((2 : Nat) ^ min (x1.tmod (32 : Int)).toNat (32 : Nat)) : Int))).toNat + (0 : Nat))).length) : Int) ≤ (8796093022208 : Int) then gif (Dig (List.replicate (IntKind.i64.wrap (x1.tdiv (32 : Int))).toNat (0 : Int) ++ dg (val xs0 * (IntKind.u32.wrap ((1 : Int) * (↑((2 : Nat) ^ min (x1.tmod (32 : Int)).toNat (32 : Nat)) : Int))).toNat + (0 : Nat))) ∧ (List.replicate (IntKind.i64.wrap (x1.tdiv (32 : Int))).toNat (0 : Int) ++ dg (val xs0 * (IntKind.u32.wrap ((1 : Int) * (↑((2 : Nat) ^ min (x1.tmod (32 : Int)).toNat (32 : Nat)) : Int))).toNat + (0 : Nat))).length ≤ (4398046511104 : Nat)) (some [D.own (180 : Nat) IntKind.u32 (dg (val (List.replicate (IntKind.i64.wrap (x1.tdiv (32 : Int))).toNat (0 : Int) ++ dg (val xs0 * (IntKind.u32.wrap ((1 : Int) * (↑((2 : Nat) ^ min (x1.tmod (32 : Int)).toNat (32 : Nat)) : Int))).toNat + (0 : Nat)))))]) else none) else none := (cutAt_J rfl nok 3 _).trans (by kernel_rfl)
-- stuck: 0
end Shl
namespace Shl
noncomputable def sp (a : List Int) (n : Int) : Prop × List D := (Nrm a ∧ a.length ≤ 1099511627776 ∧ n ≤ 1099511627776, [.own tU32 .u32 (dg (val a * 2 ^ n.toNat))])
theorem spec (a : List Int) (n : Int) (h : (sp a n).1) : evalFn E Tryz.f131 cod [(pI .u32).put a, (pN .i64).put n] = some (sp a n).2 := by
  obtain ⟨ha, h1, h2⟩ := h
  refine (start a n).trans ?_
  show _ = some [D.own tU32 .u32 (dg (val a * 2 ^ n.toNat))]
  by_cases hn : n ≤ 0
  · rw [bD_pos hn, gP ⟨ha.dig, by omega⟩, show n.toNat = 0 from by omega, Nat.pow_zero, Nat.mul_one]
  · rw [bD_neg hn]
    by_cases hz : a.length = 0
    · have hv := (len_zero ha).1 hz
      rw [bE_pos (by omega), gP ⟨ha.dig, by omega⟩, hv, Nat.zero_mul]
    · have hv : val a ≠ 0 := fun h => hz ((len_zero ha).2 h)
      rw [bE_neg (by omega), J3_eq, tdiv32 (by omega), tmod32 (by omega), wrap_i64 (n := n / 32) (by omega) (by omega), wrap_i64 (n := n / 32 + a.length) (by omega) (by omega), wrap_i64 (by omega) (by omega), if_pos ⟨by omega, by omega, by omega⟩, if_neg (by omega),
        shl_wrap (by omega) (by omega), Int.toNat_natCast]
      have e1 : (n % 32).toNat = n.toNat % 32 := by omega
      have e2 : (n / 32).toNat = n.toNat / 32 := by omega
      have hp : 2 ^ (n.toNat % 32) < 2 ^ 32 := Nat.pow_lt_pow_right (by omega) (by omega)
      have hp0 : 0 < 2 ^ (n.toNat % 32) := Nat.pow_pos (by omega)
      rw [e1, e2, Nat.add_zero]
      have hm : val a * 2 ^ (n.toNat % 32) ≠ 0 := Nat.mul_ne_zero hv (by omega)
      have hml : (dg (val a * 2 ^ (n.toNat % 32))).length ≤ a.length + 1 := by
        apply len_dg_le
        rw [Nat.pow_succ]
        exact Nat.mul_lt_mul_of_lt_of_lt (val_lt ha.dig) hp
      have hm0 : (dg (val a * 2 ^ (n.toNat % 32))).length ≠ 0 := fun h => hm (dg_len_zero.1 h)
      rw [gP ⟨ha.dig, h1, ⟨by omega, by generalize 2 ^ (n.toNat % 32) = p at *; omega⟩, by omega, by omega⟩, if_pos ⟨by omega, by rw [List.length_replicate]; omega⟩,
        gP ⟨dig_append.2 ⟨dig_replicate _, dig_dg _⟩, by rw [List.length_append, List.length_replicate]; omega⟩, val_append, val_replicate, List.length_replicate, val_dg, Nat.zero_add, pow_split n.toNat, Nat.mul_left_comm]

noncomputable def orc : Orc := orc2 (pI .u32) (pN .i64) sp
theorem fnok : FnOk Tryz.prog E 131 Tryz.f131 cod := fnOk ty_ok mixed (callsOk_of _ rfl (orcs_cons Norm.ok (orcs_cons MulSmall.ok orcs_nil)) (ext_ok)) Tryz.func131 rfl rfl rfl
theorem ok : OrcOk Tryz.prog base.glob 131 orc := fnok.ok2 rfl spec
end Shl
end Go.Proofs.YtfebndgmmekmgaaGreatDoor.W

/- gnomon/gnomonref04.Shl -/
namespace Go.Proofs.YtfebndgmmekmgaaGreatDoor.W
open Go Go.Proofs.YtfebndgmmekmgaaGreatDoor.AI Go.Proofs.YtfebndgmmekmgaaGreatDoor.M
namespace ZShl
noncomputable def E : Env := { ({ base with C := callsOf [(79, Mk.orc), (131, Shl.orc)] }) with nt := 12, own := [], keep := fun k => (tlook [] k).getD [], cut := tlook [] }
noncomputable def cod : Code := (Go.Proofs.Tryz.f78.body).getD .skip
theorem nok : namesOk E cod = true := by kernel_rfl
theorem start (a1 : Bool) (a2 : List Int) (b : Int) : evalFn E Go.Proofs.Tryz.f78 cod [D.agg [S.sc (Value.bool a1), S.ints IntKind.u32 a2], D.s (S.sc (Value.int IntKind.i64 b))] = gif (Nrm a2 ∧ a2.length ≤ (1099511627776 : Nat) ∧ b ≤ (1099511627776 : Int)) (gif (Dig (dg (val a2 * (2 : Nat) ^ b.toNat)) ∧ (dg (val a2 * (2 : Nat) ^ b.toNat)).length ≤ (4398046511104 : Nat)) (some [D.agg [S.sc (Value.bool (isNeg (zs a1 (val (dg (val a2 * (2 : Nat) ^ b.toNat)))))), S.ints IntKind.u32 (dg (zs a1 (val (dg (val a2 * (2 : Nat) ^ b.toNat)))).natAbs)]])) := (evalFn_J rfl nok _).trans (by kernel_rfl)
-- stuck: 0
end ZShl
namespace ZShl
noncomputable def sp (x : Bool × List Int) (k : Int) : Prop × List D := (Zok x ∧ k ≤ 1099511627776, [zD (zv x * 2 ^ k.toNat)])
theorem spec (x : Bool × List Int) (k : Int) (h : (sp x k).1) : evalFn E Tryz.f78 cod [(pG (.pair sB (sI .u32))).put x, (pN .i64).put k] = some (sp x k).2 := by
  refine (start x.1 x.2 k).trans ?_
  obtain ⟨hx, hk⟩ := h
  have l1 := hx.len
  have l2 := len_dg_shl (val x.2) k.toNat
  rw [nrm_len hx.1] at l2
  rw [gP ⟨hx.1, by omega, hk⟩, gP ⟨dig_dg _, by omega⟩, val_dg]
  show _ = some [zD (zv x * 2 ^ k.toNat)]
  have : zs x.1 (val x.2 * 2 ^ k.toNat) = zv x * 2 ^ k.toNat := by
    unfold zv zs
    cases x.1 <;> simp [Int.natCast_mul, Int.natCast_pow, Int.neg_mul]
  rw [this]
  rfl

noncomputable def orc : Orc := orc2 (pG (.pair sB (sI .u32))) (pN .i64) sp
theorem fnok : FnOk Tryz.prog E 78 Tryz.f78 cod := fnOk ty_ok mixed (callsOk_of _ rfl (orcs_cons Mk.ok (orcs_cons Shl.ok orcs_nil)) (ext_ok)) Tryz.func78 rfl rfl rfl
theorem ok : OrcOk Tryz.prog base.glob 78 orc := fnok.ok2 rfl spec
end ZShl
end Go.Proofs.YtfebndgmmekmgaaGreatDoor.W

/- gnomon/gnomonref01.Pow2 -/
namespace Go.Proofs.YtfebndgmmekmgaaGreatDoor.W
open Go Go.Proofs.YtfebndgmmekmgaaGreatDoor.AI Go.Proofs.YtfebndgmmekmgaaGreatDoor.M
namespace Pow2
noncomputable def E : Env := { ({ base with C := callsOf [(130, Word.orc), (131, Shl.orc)] }) with nt := 6, own := [5], keep := fun k => (tlook [] k).getD [], cut := tlook [] }
noncomputable def cod : Code := (Go.Proofs.Tryz.f80.body).getD .skip
theorem nok : namesOk E cod = true := by kernel_rfl
theorem start (a : Int) : evalFn E Go.Proofs.Tryz.f80 cod [D.s (S.sc (Value.int IntKind.i64 a))] = gif ((0 : Int) ≤ (1 : Int) ∧ (1 : Int) < (18446744073709551616 : Int)) (gif (Nrm (dg (1 : Nat)) ∧ (dg (1 : Nat)).length ≤ (1099511627776 : Nat) ∧ a ≤ (1099511627776 : Int)) (some [D.own (180 : Nat) IntKind.u32 (dg (val (dg (1 : Nat)) * (2 : Nat) ^ a.toNat))])) := (evalFn_J rfl nok _).trans (by kernel_rfl)
-- stuck: 0
end Pow2
namespace Pow2
noncomputable def sp (n : Int) : Prop × List D := (n ≤ 1099511627776, [.own tU32 .u32 (dg (2 ^ n.toNat))])
theorem spec (n : Int) (h : (sp n).1) : evalFn E Tryz.f80 cod [(pN .i64).put n] = some (sp n).2 := by
  refine (start n).trans ?_
  rw [gP ⟨by omega, by omega⟩, gP ⟨nrm_dg _, by simp [dg], h⟩, val_dg]
  simp [sp]

noncomputable def orc : Orc := orc1 (pN .i64) sp
theorem fnok : FnOk Tryz.prog E 80 Tryz.f80 cod := fnOk ty_ok mixed (callsOk_of _ rfl (orcs_cons Word.ok (orcs_cons Shl.ok orcs_nil)) (ext_ok)) Tryz.func80 rfl rfl rfl
theorem ok : OrcOk Tryz.prog base.glob 80 orc := fnok.ok1 rfl spec
end Pow2
end Go.Proofs.YtfebndgmmekmgaaGreatDoor.W

/- gnomon/gnomonref01.Add -/
namespace Go.Proofs.YtfebndgmmekmgaaGreatDoor.W
open Go Go.Proofs.YtfebndgmmekmgaaGreatDoor.AI Go.Proofs.YtfebndgmmekmgaaGreatDoor.M
namespace Add
noncomputable def E : Env := { ({ base with C := callsOf [(132, Norm.orc)] }) with nt := 63, own := [62], keep := fun k => (tlook [(4, [0, 1, 5, 6, 7])] k).getD [], cut := tlook [(6, [0, 1, 5, 6, 7]), (8, [0, 1, 5, 6, 7]), (10, [0, 1, 5, 6, 7])] }
noncomputable def cod : Code := (Go.Proofs.Tryz.f134.body).getD .skip
theorem nok : namesOk E cod = true := by kernel_rfl
noncomputable def L4 (xs0 : List Int) (xs1 : List Int) (m2 : Nat) (xs3 : List Int) (x4 : Int) (x5 : Int) : Option (List D) := lpO E Go.Proofs.Tryz.f134 cod 4 [(A.v (V.one (L.s (S.ints IntKind.u32 xs0))), none), (A.v (V.one (L.s (S.ints IntKind.u32 xs1))), none), (A.v (V.one (L.buf (2 : Nat) m2)), some { e := (180 : Nat), cont := Cont.ints IntKind.u32 xs3 }), (A.v (V.one (L.s (S.sc (Value.int IntKind.u64 x4)))), none), (A.v (V.one (L.s (S.sc (Value.int IntKind.i64 x5)))), none)]
noncomputable def J6 (xs0 : List Int) (xs1 : List Int) (m2 : Nat) (xs3 : List Int) (x4 : Int) (x5 : Int) : Option (List D) := ctO E Go.Proofs.Tryz.f134 cod 6 [(A.v (V.one (L.s (S.ints IntKind.u32 xs0))), none), (A.v (V.one (L.s (S.ints IntKind.u32 xs1))), none), (A.v (V.one (L.buf (2 : Nat) m2)), some { e := (180 : Nat), cont := Cont.ints IntKind.u32 xs3 }), (A.v (V.one (L.s (S.sc (Value.int IntKind.u64 x4)))), none), (A.v (V.one (L.s (S.sc (Value.int IntKind.i64 x5)))), none)]
noncomputable def J8 (xs0 : List Int) (xs1 : List Int) (m2 : Nat) (xs3 : List Int) (x4 : Int) (x5 : Int) : Option (List D) := ctO E Go.Proofs.Tryz.f134 cod 8 [(A.v (V.one (L.s (S.ints IntKind.u32 xs0))), none), (A.v (V.one (L.s (S.ints IntKind.u32 xs1))), none), (A.v (V.one (L.buf (2 : Nat) m2)), some { e := (180 : Nat), cont := Cont.ints IntKind.u32 xs3 }), (A.v (V.one (L.s (S.sc (Value.int IntKind.u64 x4)))), none), (A.v (V.one (L.s (S.sc (Value.int IntKind.i64 x5)))), none)]
noncomputable def J10 (xs0 : List Int) (xs1 : List Int) (m2 : Nat) (xs3 : List Int) (x4 : Int) (x5 : Int) : Option (List D) := ctO E Go.Proofs.Tryz.f134 cod 10 [(A.v (V.one (L.s (S.ints IntKind.u32 xs0))), none), (A.v (V.one (L.s (S.ints IntKind.u32 xs1))), none), (A.v (V.one (L.buf (2 : Nat) m2)), some { e := (180 : Nat), cont := Cont.ints IntKind.u32 xs3 }), (A.v (V.one (L.s (S.sc (Value.int IntKind.u64 x4)))), none), (A.v (V.one (L.s (S.sc (Value.int IntKind.i64 x5)))), none)]
theorem start (a : List Int) (b : List Int) : evalFn E Go.Proofs.Tryz.f134 cod [D.s (S.ints IntKind.u32 a), D.s (S.ints IntKind.u32 b)] = if (0 : Int) ≤ (0 : Int) ∧ (0 : Int) ≤ IntKind.i64.wrap ((if (↑b.length : Int) > (↑a.length : Int) then (↑b.length : Int) else (↑a.length : Int)) + (1 : Int)) ∧ IntKind.i64.wrap ((if (↑b.length : Int) > (↑a.length : Int) then (↑b.length : Int) else (↑a.length : Int)) + (1 : Int)) ≤ (8796093022208 : Int) then Add.L4 a b (0 : Nat) (List.replicate (0 : Nat) (0 : Int)) (0 : Int) (0 : Int) else none := (evalFn_J rfl nok _).trans (by kernel_rfl)
theorem L4_eq (xs0 : List Int) (xs1 : List Int) (m2 : Nat) (xs3 : List Int) (x4 : Int) (x5 : Int) : L4 xs0 xs1 m2 xs3 x4 x5 = bcase (decide (x5 < (↑xs0.length : Int))) (Add.J6 xs0 xs1 m2 xs3 x4 x5) (bcase (decide (x5 < (↑xs1.length : Int))) (Add.J6 xs0 xs1 m2 xs3 x4 x5) (bcase (decide ((0 : Int) < x4)) (Add.J6 xs0 xs1 m2 xs3 x4 x5) (gif (Dig xs3 ∧ xs3.length ≤ (4398046511104 : Nat)) (some [D.own (180 : Nat) IntKind.u32 (dg (val xs3))])))) := (loopAt_J rfl nok 4 _).trans (by kernel_rfl)
theorem J6_eq (xs0 : List Int) (xs1 : List Int) (m2 : Nat) (xs3 : List Int) (x4 : Int) (x5 : Int) : J6 xs0 xs1 m2 xs3 x4 x5 = bcase (decide (x5 < (↑xs0.length : Int))) (if (0 : Int) ≤ x5 ∧ x5 < (↑xs0.length : Int) then Add.J8 xs0 xs1 m2 xs3 (IntKind.u64.wrap (x4 + IntKind.u64.wrap (xs0.getD x5.toNat (0 : Int)))) x5 else none) (Add.J8 xs0 xs1 m2 xs3 x4 x5) := (cutAt_J rfl nok 6 _).trans (by kernel_rfl)
theorem J8_eq (xs0 : List Int) (xs1 : List Int) (m2 : Nat) (xs3 : List Int) (x4 : Int) (x5 : Int) : J8 xs0 xs1 m2 xs3 x4 x5 = bcase (decide (x5 < (↑xs1.length : Int))) (if (0 : Int) ≤ x5 ∧ x5 < (↑xs1.length : Int) then Add.J10 xs0 xs1 m2 xs3 (IntKind.u64.wrap (x4 + IntKind.u64.wrap (xs1.getD x5.toNat (0 : Int)))) x5 else none) (Add.J10 xs0 xs1 m2 xs3 x4 x5) := (cutAt_J rfl nok 8 _).trans (by kernel_rfl)
theorem J10_eq (xs0 : List Int) (xs1 : List Int) (m2 : Nat) (xs3 : List Int) (x4 : Int) (x5 : Int) : J10 xs0 xs1 m2 xs3 x4 x5 = if (0 : Nat) < [IntKind.u32.wrap (bitsI BinOp.and IntKind.u64 x4 (4294967295 : Int))].length ∧ (↑(xs3.length + [IntKind.u32.wrap (bitsI BinOp.and IntKind.u64 x4 (4294967295 : Int))].length) : Int) ≤ (8796093022208 : Int) then Add.L4 xs0 xs1 (xs3.length + [IntKind.u32.wrap (bitsI BinOp.and IntKind.u64 x4 (4294967295 : Int))].length) (xs3 ++ [IntKind.u32.wrap (bitsI BinOp.and IntKind.u64 x4 (4294967295 : Int))]) (x4 / (4294967296 : Int)) (IntKind.i64.wrap (x5 + (1 : Int))) else none := (cutAt_J rfl nok 10 _).trans (by kernel_rfl)
-- stuck: 0
end Add
namespace Add
theorem step {a b xs : List Int} {c : Int} {i : Nat} (ha : Dig a) (hb : Dig b) (hxl : xs.length = i) (hi : i < 4398046511104) (h0 : 0 ≤ c) (h1 : c ≤ 1) (hc : i < a.length ∨ i < b.length ∨ 0 < c) :
    L4 a b i xs c i = L4 a b (i + 1) (xs ++ [(c + a.getD i 0 + b.getD i 0) % 4294967296]) ((c + a.getD i 0 + b.getD i 0) / 4294967296) ((i + 1 : Nat) : Int) := by
  have g1 := ha.get i
  have g2 := hb.get i
  have e' : ((i : Int)).toNat = i := Int.toNat_natCast i
  have hJ10 : ∀ s : Int, 0 ≤ s → s < 18446744073709551616 → J10 a b i xs s i = L4 a b (i + 1) (xs ++ [s % 4294967296]) (s / 4294967296) ((i + 1 : Nat) : Int) := by
    intro s hs hs'
    rw [J10_eq, and_mask32 hs hs', if_pos ⟨by simp, by simp; omega⟩, wrap_u32, Int.emod_emod_of_dvd _ (Int.dvd_refl _), wrap_i64 (by omega) (by omega), hxl]
    rfl
  have hJ8 : ∀ s : Int, 0 ≤ s → s < 8589934592 → J8 a b i xs s i = J10 a b i xs (s + b.getD i 0) i := by
    intro s hs hs'
    rw [J8_eq]
    by_cases h : i < b.length
    · rw [bD_pos (by omega), if_pos (by omega), e', wrap_u64 (n := b.getD i 0) (by omega) (by omega), wrap_u64 (by omega) (by omega)]
    · rw [bD_neg (by omega), getD_none (a := b) (by omega), Int.add_zero]
  have hJ6 : J6 a b i xs c i = L4 a b (i + 1) (xs ++ [(c + a.getD i 0 + b.getD i 0) % 4294967296]) ((c + a.getD i 0 + b.getD i 0) / 4294967296) ((i + 1 : Nat) : Int) := by
    rw [J6_eq]
    by_cases h : i < a.length
    · rw [bD_pos (by omega), if_pos (by omega), e', wrap_u64 (n := a.getD i 0) (by omega) (by omega), wrap_u64 (by omega) (by omega), hJ8 _ (by omega) (by omega), hJ10 _ (by omega) (by omega)]
    · rw [bD_neg (by omega), getD_none (a := a) (by omega), Int.add_zero, hJ8 _ (by omega) (by omega), hJ10 _ (by omega) (by omega)]
  rw [L4_eq]
  by_cases h : i < a.length
  · rw [bD_pos (by omega), hJ6]
  · rw [bD_neg (by omega)]
    by_cases h' : i < b.length
    · rw [bD_pos (by omega), hJ6]
    · rw [bD_neg (by omega), bD_pos (by omega), hJ6]

theorem L {a b : List Int} (ha : Dig a) (hb : Dig b) (hla : a.length ≤ 1099511627776) (hlb : b.length ≤ 1099511627776) : ∀ (d i : Nat) (xs : List Int) (c : Int), Dig xs → xs.length = i → 0 ≤ c → c ≤ 1 →
    i + d = max a.length b.length + 1 → (d = 0 → c = 0) → val xs + 4294967296 ^ i * c.toNat = val (a.take i) + val (b.take i) →
    L4 a b i xs c i = some [D.own tU32 .u32 (dg (val a + val b))] := by
  intro d
  induction d with
  | zero =>
    intro i xs c hx hxl h0 h1 hd hc hv
    have hc := hc rfl
    subst hc
    rw [L4_eq, bD_neg (by omega), bD_neg (by omega), bD_neg (by omega), gP ⟨hx, by omega⟩]
    rw [val_take_ge (by omega), val_take_ge (by omega)] at hv
    simp at hv
    rw [hv]
  | succ d ih =>
    intro i xs c hx hxl h0 h1 hd hc hv
    by_cases hgo : i < a.length ∨ i < b.length ∨ 0 < c
    · have g1 := ha.get i
      have g2 := hb.get i
      rw [step ha hb hxl (by omega) h0 h1 hgo]
      refine ih (i + 1) _ _ (dig_push hx (by omega)) (by simp [hxl]) (by omega) (by omega) (by omega) (fun hd0 => ?_) ?_
      · have : ¬ i < a.length := by omega
        have : ¬ i < b.length := by omega
        rw [getD_none (a := a) (by omega), getD_none (a := b) (by omega)]
        omega
      · rw [val_push, val_take_one, val_take_one, hxl, Nat.pow_succ, Nat.mul_assoc]
        generalize a.getD i 0 = x at *
        generalize b.getD i 0 = y at *
        generalize 4294967296 ^ i = B at *
        have e : 4294967296 * ((c + x + y) / 4294967296).toNat + ((c + x + y) % 4294967296).toNat = c.toNat + x.toNat + y.toNat := by omega
        have e2 : B * (4294967296 * ((c + x + y) / 4294967296).toNat) + B * ((c + x + y) % 4294967296).toNat = B * c.toNat + B * x.toNat + B * y.toNat := by
          rw [← Nat.mul_add, e, Nat.mul_add, Nat.mul_add]
        omega
    · have : c = 0 := by omega
      subst this
      rw [L4_eq, bD_neg (by omega), bD_neg (by omega), bD_neg (by omega), gP ⟨hx, by omega⟩]
      rw [val_take_ge (by omega), val_take_ge (by omega)] at hv
      simp at hv
      rw [hv]

noncomputable def sp (a b : List Int) : Prop × List D := (Dig a ∧ Dig b ∧ a.length ≤ 1099511627776 ∧ b.length ≤ 1099511627776, [.own tU32 .u32 (dg (val a + val b))])
theorem spec (a b : List Int) (h : (sp a b).1) : evalFn E Tryz.f134 cod [(pI .u32).put a, (pI .u32).put b] = some (sp a b).2 := by
  obtain ⟨ha, hb, h1, h2⟩ := h
  refine (start a b).trans ?_
  rw [if_pos]
  · exact L ha hb h1 h2 (max a.length b.length + 1) 0 [] 0 dig_nil rfl (by omega) (by omega) (by omega) (fun _ => rfl) (by simp [val])
  · refine ⟨by omega, ?_, ?_⟩ <;> rw [wrap_i64] <;> split <;> omega

noncomputable def orc : Orc := orc2 (pI .u32) (pI .u32) sp
theorem fnok : FnOk Tryz.prog E 134 Tryz.f134 cod := fnOk ty_ok mixed (callsOk_of _ rfl (orcs_cons Norm.ok orcs_nil) (ext_ok)) Tryz.func134 rfl rfl rfl
theorem ok : OrcOk Tryz.prog base.glob 134 orc := fnok.ok2 rfl spec
end Add
end Go.Proofs.YtfebndgmmekmgaaGreatDoor.W

/- gnomon/gnomonref01.Cmp -/
namespace Go.Proofs.YtfebndgmmekmgaaGreatDoor.W
open Go Go.Proofs.YtfebndgmmekmgaaGreatDoor.AI Go.Proofs.YtfebndgmmekmgaaGreatDoor.M
namespace Cmp
noncomputable def E : Env := { (base) with nt := 41, own := [], keep := fun k => (tlook [(6, [0, 1, 5])] k).getD [], cut := tlook [] }
noncomputable def cod : Code := (Go.Proofs.Tryz.f135.body).getD .skip
theorem nok : namesOk E cod = true := by kernel_rfl
noncomputable def L6 (xs0 : List Int) (xs1 : List Int) (x2 : Int) : Option (List D) := lpO E Go.Proofs.Tryz.f135 cod 6 [(A.v (V.one (L.s (S.ints IntKind.u32 xs0))), none), (A.v (V.one (L.s (S.ints IntKind.u32 xs1))), none), (A.v (V.one (L.s (S.sc (Value.int IntKind.i64 x2)))), none)]
theorem start (a : List Int) (b : List Int) : evalFn E Go.Proofs.Tryz.f135 cod [D.s (S.ints IntKind.u32 a), D.s (S.ints IntKind.u32 b)] = bcase ((↑a.length : Int) != (↑b.length : Int)) (bcase (decide ((↑a.length : Int) < (↑b.length : Int))) (some [D.s (S.sc (Value.int IntKind.i64 (-1 : Int)))]) (some [D.s (S.sc (Value.int IntKind.i64 (1 : Int)))])) (Cmp.L6 a b (IntKind.i64.wrap ((↑a.length : Int) - (1 : Int)))) := (evalFn_J rfl nok _).trans (by kernel_rfl)
theorem L6_eq (xs0 : List Int) (xs1 : List Int) (x2 : Int) : L6 xs0 xs1 x2 = bcase (decide ((0 : Int) ≤ x2)) (if (0 : Int) ≤ x2 ∧ x2 < (↑xs0.length : Int) then if (0 : Int) ≤ x2 ∧ x2 < (↑xs1.length : Int) then bcase (decide (xs0.getD x2.toNat (0 : Int) < xs1.getD x2.toNat (0 : Int))) (some [D.s (S.sc (Value.int IntKind.i64 (-1 : Int)))]) (if (0 : Int) ≤ x2 ∧ x2 < (↑xs0.length : Int) then if (0 : Int) ≤ x2 ∧ x2 < (↑xs1.length : Int) then bcase (decide (xs1.getD x2.toNat (0 : Int) < xs0.getD x2.toNat (0 : Int))) (some [D.s (S.sc (Value.int IntKind.i64 (1 : Int)))]) (Cmp.L6 xs0 xs1 (IntKind.i64.wrap (x2 - (1 : Int)))) else none else none) else none else none) (some [D.s (S.sc (Value.int IntKind.i64 (0 : Int)))]) := (loopAt_J rfl nok 6 _).trans (by kernel_rfl)
-- stuck: 0
end Cmp
namespace Cmp
theorem L {a b : List Int} (ha : Dig a) (hb : Dig b) (hl : a.length = b.length) (hm : a.length ≤ 4398046511104) : ∀ n : Nat, n ≤ a.length → L6 a b ((n : Int) - 1) = some [D.s (.sc (.int .i64 (cmpN (val (a.take n)) (val (b.take n)))))]
  | 0, _ => by
    rw [L6_eq, bD_neg (by omega)]
    simp [cmpN, val]
  | n + 1, h => by
    have e : (((n + 1 : Nat) : Int) - 1) = (n : Int) := by omega
    have e' : ((n : Int)).toNat = n := Int.toNat_natCast n
    rw [e, L6_eq, bD_pos (by omega), if_pos (by omega), if_pos (by omega), if_pos (by omega), if_pos (by omega), e', wrap_i64 (by omega) (by omega), L ha hb hl hm n (by omega)]
    have h1 := ha.get n
    have h2 := hb.get n
    have l1 := val_take_lt ha n
    have l2 := val_take_lt hb n
    rw [val_take_one, val_take_one]
    generalize a.getD n 0 = x at *
    generalize b.getD n 0 = y at *
    generalize val (a.take n) = u at *
    generalize val (b.take n) = v at *
    generalize 4294967296 ^ n = B at *
    by_cases hxy : x < y
    · rw [bD_pos hxy]
      have : B * x.toNat + B ≤ B * y.toNat := by
        have : B * (x.toNat + 1) ≤ B * y.toNat := Nat.mul_le_mul_left _ (by omega)
        rw [Nat.mul_add] at this; omega
      unfold cmpN
      rw [if_pos (by omega)]
    · rw [bD_neg hxy]
      by_cases hyx : y < x
      · rw [bD_pos hyx]
        have : B * y.toNat + B ≤ B * x.toNat := by
          have : B * (y.toNat + 1) ≤ B * x.toNat := Nat.mul_le_mul_left _ (by omega)
          rw [Nat.mul_add] at this; omega
        unfold cmpN
        rw [if_neg (by omega), if_pos (by omega)]
      · rw [bD_neg hyx]
        have : x = y := by omega
        subst this
        rw [cmpN_add]

noncomputable def sp (a b : List Int) : Prop × List D := (Nrm a ∧ Nrm b ∧ a.length ≤ 4398046511104 ∧ b.length ≤ 4398046511104, [.s (.sc (.int .i64 (cmpN (val a) (val b))))])
theorem spec (a b : List Int) (h : (sp a b).1) : evalFn E Tryz.f135 cod [(pI .u32).put a, (pI .u32).put b] = some (sp a b).2 := by
  obtain ⟨ha, hb, h1, h2⟩ := h
  refine (start a b).trans ?_
  show _ = some [D.s (.sc (.int .i64 (cmpN (val a) (val b))))]
  by_cases hl : a.length = b.length
  · rw [bN_neg (by omega), wrap_i64 (by omega) (by omega), L ha.dig hb.dig hl h1 a.length (Nat.le_refl _), val_take_ge (Nat.le_refl _), val_take_ge (by omega)]
  · rw [bN_pos (by omega)]
    by_cases hlt : a.length < b.length
    · have := nrm_len_lt ha.dig hb hlt
      rw [bD_pos (by omega)]
      unfold cmpN
      rw [if_pos this]
    · have := nrm_len_lt hb.dig ha (by omega)
      rw [bD_neg (by omega)]
      unfold cmpN
      rw [if_neg (by omega), if_pos this]

noncomputable def orc : Orc := orc2 (pI .u32) (pI .u32) sp
theorem fnok : FnOk Tryz.prog E 135 Tryz.f135 cod := fnOk ty_ok mixed (callsOk_of _ rfl orcs_nil (ext_ok)) Tryz.func135 rfl rfl rfl
theorem ok : OrcOk Tryz.prog base.glob 135 orc := fnok.ok2 rfl spec
end Cmp
end Go.Proofs.YtfebndgmmekmgaaGreatDoor.W

/- gnomon/gnomonref01.Sub -/
namespace Go.Proofs.YtfebndgmmekmgaaGreatDoor.W
open Go Go.Proofs.YtfebndgmmekmgaaGreatDoor.AI Go.Proofs.YtfebndgmmekmgaaGreatDoor.M
namespace Sub
noncomputable def E : Env := { ({ base with C := callsOf [(132, Norm.orc), (130, Word.orc), (135, Cmp.orc)] }) with nt := 55, own := [14, 54], keep := fun k => (tlook [(6, [0, 1, 5, 6, 7])] k).getD [], cut := tlook [(11, [0, 1, 5, 7, 8])] }
noncomputable def cod : Code := (Go.Proofs.Tryz.f136.body).getD .skip
theorem nok : namesOk E cod = true := by kernel_rfl
noncomputable def L6 (xs0 : List Int) (xs1 : List Int) (m2 : Nat) (xs3 : List Int) (x4 : Int) (x5 : Int) : Option (List D) := lpO E Go.Proofs.Tryz.f136 cod 6 [(A.v (V.one (L.s (S.ints IntKind.u32 xs0))), none), (A.v (V.one (L.s (S.ints IntKind.u32 xs1))), none), (A.v (V.one (L.buf (2 : Nat) m2)), some { e := (180 : Nat), cont := Cont.ints IntKind.u32 xs3 }), (A.v (V.one (L.s (S.sc (Value.int IntKind.u64 x4)))), none), (A.v (V.one (L.s (S.sc (Value.int IntKind.i64 x5)))), none)]
noncomputable def J11 (xs0 : List Int) (xs1 : List Int) (m2 : Nat) (xs3 : List Int) (x4 : Int) (x5 : Int) : Option (List D) := ctO E Go.Proofs.Tryz.f136 cod 11 [(A.v (V.one (L.s (S.ints IntKind.u32 xs0))), none), (A.v (V.one (L.s (S.ints IntKind.u32 xs1))), none), (A.v (V.one (L.buf (2 : Nat) m2)), some { e := (180 : Nat), cont := Cont.ints IntKind.u32 xs3 }), (A.v (V.one (L.s (S.sc (Value.int IntKind.i64 x4)))), none), (A.v (V.one (L.s (S.sc (Value.int IntKind.u64 x5)))), none)]
theorem start (a : List Int) (b : List Int) : evalFn E Go.Proofs.Tryz.f136 cod [D.s (S.ints IntKind.u32 a), D.s (S.ints IntKind.u32 b)] = gif (Nrm a ∧ Nrm b ∧ a.length ≤ (4398046511104 : Nat) ∧ b.length ≤ (4398046511104 : Nat)) (bcase (decide (cmpN (val a) (val b) ≤ (0 : Int))) (gif ((0 : Int) ≤ (0 : Int) ∧ (0 : Int) < (18446744073709551616 : Int)) (some [D.own (180 : Nat) IntKind.u32 (dg (0 : Nat))])) (if (0 : Int) ≤ (0 : Int) ∧ (0 : Int) ≤ (↑a.length : Int) ∧ (↑a.length : Int) ≤ (8796093022208 : Int) then Sub.L6 a b (0 : Nat) (List.replicate (0 : Nat) (0 : Int)) (0 : Int) (0 : Int) else none)) := (evalFn_J rfl nok _).trans (by kernel_rfl)
theorem L6_eq (xs0 : List Int) (xs1 : List Int) (m2 : Nat) (xs3 : List Int) (x4 : Int) (x5 : Int) : L6 xs0 xs1 m2 xs3 x4 x5 = bcase (decide (x5 < (↑xs0.length : Int))) (bcase (decide (x5 < (↑xs1.length : Int))) (if (0 : Int) ≤ x5 ∧ x5 < (↑xs1.length : Int) then Sub.J11 xs0 xs1 m2 xs3 x5 (IntKind.u64.wrap (x4 + IntKind.u64.wrap (xs1.getD x5.toNat (0 : Int)))) else none) (Sub.J11 xs0 xs1 m2 xs3 x5 x4)) (gif (Dig xs3 ∧ xs3.length ≤ (4398046511104 : Nat)) (some [D.own (180 : Nat) IntKind.u32 (dg (val xs3))])) := (loopAt_J rfl nok 6 _).trans (by kernel_rfl)
theorem J11_eq (xs0 : List Int) (xs1 : List Int) (m2 : Nat) (xs3 : List Int) (x4 : Int) (x5 : Int) : J11 xs0 xs1 m2 xs3 x4 x5 = if (0 : Int) ≤ x4 ∧ x4 < (↑xs0.length : Int) then bcase (decide (IntKind.u64.wrap (xs0.getD x4.toNat (0 : Int)) < x5)) (if (0 : Nat) < [IntKind.u32.wrap (IntKind.u64.wrap (IntKind.u64.wrap (IntKind.u64.wrap (xs0.getD x4.toNat (0 : Int)) + (4294967296 : Int)) - x5))].length ∧ (↑(xs3.length + [IntKind.u32.wrap (IntKind.u64.wrap (IntKind.u64.wrap (IntKind.u64.wrap (xs0.getD x4.toNat (0 : Int)) + (4294967296 : Int)) - x5))].length) : Int) ≤ (8796093022208 : Int) then Sub.L6 xs0 xs1 (xs3.length + [IntKind.u32.wrap (IntKind.u64.wrap (IntKind.u64.wrap (IntKind.u64.wrap (xs0.getD x4.toNat (0 : Int)) + (4294967296 : Int)) - x5))].length) (xs3 ++ [IntKind.u32.wrap (IntKind.u64.wrap (IntKind.u64.wrap (IntKind.u64.wrap (xs0.getD x4.toNat (0 : Int)) + (4294967296 : Int)) - x5))]) (1 : Int) (IntKind.i64.wrap (x4 + (1 : Int))) else none) (if (0 : Nat) < [IntKind.u32.wrap (IntKind.u64.wrap (IntKind.u64.wrap (xs0.getD x4.toNat (0 : Int)) - x5))].length ∧ (↑(xs3.length + [IntKind.u32.wrap (IntKind.u64.wrap (IntKind.u64.wrap (xs0.getD x4.toNat (0 : Int)) - x5))].length) : Int) ≤ (8796093022208 : Int) then Sub.L6 xs0 xs1 (xs3.length + [IntKind.u32.wrap (IntKind.u64.wrap (IntKind.u64.wrap (xs0.getD x4.toNat (0 : Int)) - x5))].length) (xs3 ++ [IntKind.u32.wrap (IntKind.u64.wrap (IntKind.u64.wrap (xs0.getD x4.toNat (0 : Int)) - x5))]) (0 : Int) (IntKind.i64.wrap (x4 + (1 : Int))) else none) else none := (cutAt_J rfl nok 11 _).trans (by kernel_rfl)
-- stuck: 0
end Sub
namespace Sub
theorem step {a b xs : List Int} {o : Int} {i : Nat} (ha : Dig a) (hb : Dig b) (hxl : xs.length = i) (hi : i < a.length) (hla : a.length ≤ 4398046511104) (h0 : 0 ≤ o) (h1 : o ≤ 1) :
    L6 a b i xs o i = L6 a b (i + 1) (xs ++ [(a.getD i 0 - (o + b.getD i 0)) % 4294967296]) (if a.getD i 0 < o + b.getD i 0 then 1 else 0) ((i + 1 : Nat) : Int) := by
  have g1 := ha.get i
  have g2 := hb.get i
  have e' : ((i : Int)).toNat = i := Int.toNat_natCast i
  have hJ : ∀ t : Int, 0 ≤ t → t ≤ 4294967296 → J11 a b i xs i t = L6 a b (i + 1) (xs ++ [(a.getD i 0 - t) % 4294967296]) (if a.getD i 0 < t then 1 else 0) ((i + 1 : Nat) : Int) := by
    intro t ht ht'
    rw [J11_eq, if_pos (by omega), e', wrap_u64 (n := a.getD i 0) (by omega) (by omega), wrap_u64 (n := a.getD i 0 + 4294967296) (by omega) (by omega)]
    by_cases h : a.getD i 0 < t
    · rw [bD_pos h, if_pos ⟨by simp, by simp; omega⟩, if_pos h, wrap_u64 (n := a.getD i 0 + 4294967296 - t) (by omega) (by omega), wrap_u32, wrap_i64 (by omega) (by omega), hxl, show (a.getD i 0 + 4294967296 - t) % 4294967296 = (a.getD i 0 - t) % 4294967296 from by omega]
      rfl
    · rw [bD_neg h, if_pos ⟨by simp, by simp; omega⟩, if_neg h, wrap_u64 (n := a.getD i 0 - t) (by omega) (by omega), wrap_u32, wrap_i64 (by omega) (by omega), hxl]
      rfl
  rw [L6_eq, bD_pos (by omega)]
  by_cases h : i < b.length
  · rw [bD_pos (by omega), if_pos (by omega), e', wrap_u64 (n := b.getD i 0) (by omega) (by omega), wrap_u64 (by omega) (by omega), hJ _ (by omega) (by omega)]
  · rw [bD_neg (by omega), getD_none (a := b) (by omega), Int.add_zero, hJ _ (by omega) (by omega)]

theorem L {a b : List Int} (ha : Dig a) (hb : Dig b) (hla : a.length ≤ 4398046511104) (hbl : b.length ≤ a.length) (hba : val b ≤ val a) : ∀ (d i : Nat) (xs : List Int) (o : Int), Dig xs → xs.length = i → 0 ≤ o → o ≤ 1 →
    i + d = a.length → val xs + val (b.take i) = val (a.take i) + 4294967296 ^ i * o.toNat →
    L6 a b i xs o i = some [D.own tU32 .u32 (dg (val a - val b))] := by
  intro d
  induction d with
  | zero =>
    intro i xs o hx hxl h0 h1 hd hv
    rw [L6_eq, bD_neg (by omega), gP ⟨hx, by omega⟩]
    rw [val_take_ge (by omega), val_take_ge (by omega)] at hv
    have hxv := val_lt hx
    rw [hxl] at hxv
    have : o = 0 := by
      by_cases ho : o = 0
      · exact ho
      · exfalso
        have : o = 1 := by omega
        subst this
        have h1 : (1 : Int).toNat = 1 := rfl
        rw [h1, Nat.mul_one] at hv
        omega
    subst this
    simp at hv
    rw [show val xs = val a - val b from by omega]
  | succ d ih =>
    intro i xs o hx hxl h0 h1 hd hv
    have g1 := ha.get i
    have g2 := hb.get i
    rw [step ha hb hxl (by omega) hla h0 h1]
    refine ih (i + 1) _ _ (dig_push hx (by omega)) (by simp [hxl]) (by split <;> omega) (by split <;> omega) (by omega) ?_
    rw [val_push, val_take_one, val_take_one, hxl, Nat.pow_succ, Nat.mul_assoc]
    generalize a.getD i 0 = x at *
    generalize b.getD i 0 = y at *
    have e : ((x - (o + y)) % 4294967296).toNat + y.toNat + o.toNat = x.toNat + 4294967296 * (if x < o + y then 1 else 0 : Int).toNat := by split <;> omega
    generalize 4294967296 ^ i = B at *
    have e2 := congrArg (B * ·) e
    simp only [Nat.mul_add] at e2
    omega

noncomputable def sp (a b : List Int) : Prop × List D := (Nrm a ∧ Nrm b ∧ a.length ≤ 4398046511104 ∧ b.length ≤ 4398046511104, [.own tU32 .u32 (dg (val a - val b))])
theorem spec (a b : List Int) (h : (sp a b).1) : evalFn E Tryz.f136 cod [(pI .u32).put a, (pI .u32).put b] = some (sp a b).2 := by
  obtain ⟨ha, hb, h1, h2⟩ := h
  refine (start a b).trans ?_
  show _ = some [D.own tU32 .u32 (dg (val a - val b))]
  rw [gP ⟨ha, hb, h1, h2⟩]
  by_cases hc : val a ≤ val b
  · rw [bD_pos (by unfold cmpN; split <;> (try split) <;> omega), gP ⟨by omega, by omega⟩, show val a - val b = 0 from by omega]
  · have hl : b.length ≤ a.length := by
      rcases Nat.lt_or_ge a.length b.length with h | h
      · have := nrm_len_lt ha.dig hb h; omega
      · exact h
    rw [bD_neg (by unfold cmpN; rw [if_neg (by omega), if_pos (by omega)]; omega), if_pos ⟨by omega, by omega, by omega⟩]
    exact L ha.dig hb.dig h1 hl (by omega) a.length 0 [] 0 dig_nil rfl (by omega) (by omega) (by omega) (by simp [val])

noncomputable def orc : Orc := orc2 (pI .u32) (pI .u32) sp
theorem fnok : FnOk Tryz.prog E 136 Tryz.f136 cod := fnOk ty_ok mixed (callsOk_of _ rfl (orcs_cons Norm.ok (orcs_cons Word.ok (orcs_cons Cmp.ok orcs_nil))) (ext_ok)) Tryz.func136 rfl rfl rfl
theorem ok : OrcOk Tryz.prog base.glob 136 orc := fnok.ok2 rfl spec
end Sub
end Go.Proofs.YtfebndgmmekmgaaGreatDoor.W

/- gnomon/gnomonref04.Add -/
namespace Go.Proofs.YtfebndgmmekmgaaGreatDoor.W
open Go Go.Proofs.YtfebndgmmekmgaaGreatDoor.AI Go.Proofs.YtfebndgmmekmgaaGreatDoor.M
namespace ZAdd
noncomputable def E : Env := { ({ base with C := callsOf [(79, Mk.orc), (134, Add.orc), (135, Cmp.orc), (136, Sub.orc)] }) with nt := 40, own := [], keep := fun k => (tlook [] k).getD [], cut := tlook [] }
noncomputable def cod : Code := (Go.Proofs.Tryz.f82.body).getD .skip
theorem nok : namesOk E cod = true := by kernel_rfl
theorem start (a1 : Bool) (a2 : List Int) (b1 : Bool) (b2 : List Int) : evalFn E Go.Proofs.Tryz.f82 cod [D.agg [S.sc (Value.bool a1), S.ints IntKind.u32 a2], D.agg [S.sc (Value.bool b1), S.ints IntKind.u32 b2]] = bcase (a1 == b1) (gif (Dig a2 ∧ Dig b2 ∧ a2.length ≤ (1099511627776 : Nat) ∧ b2.length ≤ (1099511627776 : Nat)) (gif (Dig (dg (val a2 + val b2)) ∧ (dg (val a2 + val b2)).length ≤ (4398046511104 : Nat)) (some [D.agg [S.sc (Value.bool (isNeg (zs a1 (val (dg (val a2 + val b2)))))), S.ints IntKind.u32 (dg (zs a1 (val (dg (val a2 + val b2)))).natAbs)]]))) (gif (Nrm a2 ∧ Nrm b2 ∧ a2.length ≤ (4398046511104 : Nat) ∧ b2.length ≤ (4398046511104 : Nat)) (bcase (decide ((0 : Int) ≤ cmpN (val a2) (val b2))) (gif (Nrm a2 ∧ Nrm b2 ∧ a2.length ≤ (4398046511104 : Nat) ∧ b2.length ≤ (4398046511104 : Nat)) (gif (Dig (dg (val a2 - val b2)) ∧ (dg (val a2 - val b2)).length ≤ (4398046511104 : Nat)) (some [D.agg [S.sc (Value.bool (isNeg (zs a1 (val (dg (val a2 - val b2)))))), S.ints IntKind.u32 (dg (zs a1 (val (dg (val a2 - val b2)))).natAbs)]]))) (gif (Nrm b2 ∧ Nrm a2 ∧ b2.length ≤ (4398046511104 : Nat) ∧ a2.length ≤ (4398046511104 : Nat)) (gif (Dig (dg (val b2 - val a2)) ∧ (dg (val b2 - val a2)).length ≤ (4398046511104 : Nat)) (some [D.agg [S.sc (Value.bool (isNeg (zs b1 (val (dg (val b2 - val a2)))))), S.ints IntKind.u32 (dg (zs b1 (val (dg (val b2 - val a2)))).natAbs)]]))))) := (evalFn_J rfl nok _).trans (by kernel_rfl)
-- stuck: 0
end ZAdd
namespace ZAdd
noncomputable def sp (x y : Bool × List Int) : Prop × List D := (Zok x ∧ Zok y, [zD (zv x + zv y)])
theorem spec (x y : Bool × List Int) (h : (sp x y).1) : evalFn E Tryz.f82 cod [(pG (.pair sB (sI .u32))).put x, (pG (.pair sB (sI .u32))).put y] = some (sp x y).2 := by
  refine (start x.1 x.2 y.1 y.2).trans ?_
  obtain ⟨hx, hy⟩ := h
  have l1 := hx.len
  have l2 := hy.len
  have l3 := len_dg_add (val x.2) (val y.2)
  have l4 := len_dg_sub (val x.2) (val y.2)
  have l5 := len_dg_sub (val y.2) (val x.2)
  rw [nrm_len hx.1, nrm_len hy.1] at l3
  rw [nrm_len hx.1] at l4
  rw [nrm_len hy.1] at l5
  simp only [val_dg]
  show _ = some [zD (zv x + zv y)]
  rw [gP ⟨hx.1.dig, hy.1.dig, by omega, by omega⟩, gP ⟨dig_dg _, by omega⟩, gP ⟨hx.1, hy.1, by omega, by omega⟩, gP ⟨hx.1, hy.1, by omega, by omega⟩, gP ⟨dig_dg _, by omega⟩, gP ⟨hy.1, hx.1, by omega, by omega⟩, gP ⟨dig_dg _, by omega⟩]
  by_cases he : x.1 = y.1
  · rw [bB_pos (by rw [he]; simp)]
    have : zs x.1 (val x.2 + val y.2) = zv x + zv y := by
      unfold zv zs
      rw [← he]
      cases x.1 <;> simp <;> omega
    rw [this]; rfl
  · rw [bB_neg (by simpa using he)]
    by_cases hc : val y.2 ≤ val x.2
    · rw [bD_pos (cmpN_ge.2 hc)]
      have : zs x.1 (val x.2 - val y.2) = zv x + zv y := by
        unfold zv zs
        cases h1 : x.1 <;> cases h2 : y.1 <;> simp_all <;> omega
      rw [this]; rfl
    · rw [bD_neg (fun h => hc (cmpN_ge.1 h))]
      have : zs y.1 (val y.2 - val x.2) = zv x + zv y := by
        unfold zv zs
        cases h1 : x.1 <;> cases h2 : y.1 <;> simp_all <;> omega
      rw [this]; rfl

noncomputable def orc : Orc := orc2 (pG (.pair sB (sI .u32))) (pG (.pair sB (sI .u32))) sp
theorem fnok : FnOk Tryz.prog E 82 Tryz.f82 cod := fnOk ty_ok mixed (callsOk_of _ rfl (orcs_cons Mk.ok (orcs_cons Add.ok (orcs_cons Cmp.ok (orcs_cons Sub.ok orcs_nil)))) (ext_ok)) Tryz.func82 rfl rfl rfl
theorem ok : OrcOk Tryz.prog base.glob 82 orc := fnok.ok2 rfl spec
end ZAdd
end Go.Proofs.YtfebndgmmekmgaaGreatDoor.W

/- gnomon/gnomonref01.Low -/
namespace Go.Proofs.YtfebndgmmekmgaaGreatDoor.W
open Go Go.Proofs.YtfebndgmmekmgaaGreatDoor.AI Go.Proofs.YtfebndgmmekmgaaGreatDoor.M
namespace Low
noncomputable def E : Env := { ({ base with C := callsOf [(130, Word.orc), (132, Norm.orc)] }) with nt := 42, own := [8, 15, 20, 41], keep := fun k => (tlook [(6, [0, 1, 5])] k).getD [], cut := tlook [] }
noncomputable def cod : Code := (Go.Proofs.Tryz.f133.body).getD .skip
theorem nok : namesOk E cod = true := by kernel_rfl
noncomputable def L6 (xs0 : List Int) (x1 : Int) (m2 : Nat) (xs3 : List Int) : Option (List D) := lpO E Go.Proofs.Tryz.f133 cod 6 [(A.v (V.one (L.s (S.ints IntKind.u32 xs0))), none), (A.v (V.one (L.s (S.sc (Value.int IntKind.i64 x1)))), none), (A.v (V.one (L.buf (2 : Nat) m2)), some { e := (180 : Nat), cont := Cont.ints IntKind.u32 xs3 })]
theorem start (a : List Int) (b : Int) : evalFn E Go.Proofs.Tryz.f133 cod [D.s (S.ints IntKind.u32 a), D.s (S.sc (Value.int IntKind.i64 b))] = bcase (decide (b ≤ (0 : Int))) (gif ((0 : Int) ≤ (0 : Int) ∧ (0 : Int) < (18446744073709551616 : Int)) (some [D.own (180 : Nat) IntKind.u32 (dg (0 : Nat))])) (bcase (decide ((↑a.length : Int) ≤ IntKind.i64.wrap (b.tdiv (32 : Int)))) (gif (Dig a ∧ a.length ≤ (4398046511104 : Nat)) (some [D.own (180 : Nat) IntKind.u32 (dg (val a))])) (if (0 : Int) ≤ (0 : Int) ∧ (0 : Int) ≤ IntKind.i64.wrap (b.tdiv (32 : Int)) ∧ IntKind.i64.wrap (b.tdiv (32 : Int)) ≤ (↑a.length : Int) then gif (Dig (List.drop (0 : Nat) (List.take (IntKind.i64.wrap (b.tdiv (32 : Int))).toNat a)) ∧ (List.drop (0 : Nat) (List.take (IntKind.i64.wrap (b.tdiv (32 : Int))).toNat a)).length ≤ (4398046511104 : Nat)) (Low.L6 a b (dg (val (List.drop (0 : Nat) (List.take (IntKind.i64.wrap (b.tdiv (32 : Int))).toNat a)))).length (dg (val (List.drop (0 : Nat) (List.take (IntKind.i64.wrap (b.tdiv (32 : Int))).toNat a))))) else none)) := (evalFn_J rfl nok _).trans (by kernel_rfl)
theorem L6_eq (xs0 : List Int) (x1 : Int) (m2 : Nat) (xs3 : List Int) : L6 xs0 x1 m2 xs3 = bcase (decide ((↑m2 : Int) < IntKind.i64.wrap (x1.tdiv (32 : Int)))) (if (0 : Nat) < (1 : Nat) ∧ (↑(xs3.length + (1 : Nat)) : Int) ≤ (8796093022208 : Int) then Low.L6 xs0 x1 (xs3.length + (1 : Nat)) (xs3 ++ [(0 : Int)]) else none) (if (0 : Int) ≤ IntKind.i64.wrap (x1.tdiv (32 : Int)) ∧ IntKind.i64.wrap (x1.tdiv (32 : Int)) < (↑xs0.length : Int) then if x1.tmod (32 : Int) < (0 : Int) then none else if IntKind.u32.wrap ((1 : Int) * (↑((2 : Nat) ^ min (x1.tmod (32 : Int)).toNat (32 : Nat)) : Int)) = (0 : Int) then none else if (0 : Nat) < [(xs0.getD (IntKind.i64.wrap (x1.tdiv (32 : Int))).toNat (0 : Int)).tmod (IntKind.u32.wrap ((1 : Int) * (↑((2 : Nat) ^ min (x1.tmod (32 : Int)).toNat (32 : Nat)) : Int)))].length ∧ (↑(xs3.length + [(xs0.getD (IntKind.i64.wrap (x1.tdiv (32 : Int))).toNat (0 : Int)).tmod (IntKind.u32.wrap ((1 : Int) * (↑((2 : Nat) ^ min (x1.tmod (32 : Int)).toNat (32 : Nat)) : Int)))].length) : Int) ≤ (8796093022208 : Int) then gif (Dig (xs3 ++ [(xs0.getD (IntKind.i64.wrap (x1.tdiv (32 : Int))).toNat (0 : Int)).tmod (IntKind.u32.wrap ((1 : Int) * (↑((2 : Nat) ^ min (x1.tmod (32 : Int)).toNat (32 : Nat)) : Int)))]) ∧ (xs3 ++ [(xs0.getD (IntKind.i64.wrap (x1.tdiv (32 : Int))).toNat (0 : Int)).tmod (IntKind.u32.wrap ((1 : Int) * (↑((2 : Nat) ^ min (x1.tmod (32 : Int)).toNat (32 : Nat)) : Int)))]).length ≤ (4398046511104 : Nat)) (some [D.own (180 : Nat) IntKind.u32 (dg (val (xs3 ++ [(xs0.getD (IntKind.i64.wrap (x1.tdiv (32 : Int))).toNat (0 : Int)).tmod (IntKind.u32.wrap ((1 : Int) * (↑((2 : Nat) ^ min (x1.tmod (32 : Int)).toNat (32 : Nat)) : Int)))])))]) else none else none) := (loopAt_J rfl nok 6 _).trans (by kernel_rfl)
-- stuck: 0
end Low
namespace Low
theorem L {a : List Int} (ha : Dig a) (hl : a.length ≤ 1099511627776) {n : Int} (h0 : 0 ≤ n) (hn : n / 32 < a.length) {v : Nat} (hv : val (a.take (n.toNat / 32)) = v) : ∀ (d : Nat) (xs : List Int), xs.length + d = n.toNat / 32 → Dig xs → val xs = v →
    L6 a n xs.length xs = some [D.own tU32 .u32 (dg (val a % 2 ^ n.toNat))] := by
  have t1 : n.tdiv 32 = n / 32 := Int.tdiv_eq_ediv_of_nonneg (by omega)
  have t2 : n.tmod 32 = n % 32 := Int.tmod_eq_emod_of_nonneg (by omega)
  intro d
  induction d with
  | zero =>
    intro xs hd hx hxv
    have g := ha.get (n.toNat / 32)
    have hp : 2 ^ (n.toNat % 32) < 2 ^ 32 := Nat.pow_lt_pow_right (by omega) (by omega)
    have hp0 : 0 < 2 ^ (n.toNat % 32) := Nat.pow_pos (by omega)
    have e1 : (n % 32).toNat = n.toNat % 32 := by omega
    have e2 : (n / 32).toNat = n.toNat / 32 := by omega
    rw [L6_eq, t1, t2, wrap_i64 (n := n / 32) (by omega) (by omega), bD_neg (by omega), if_pos (by omega), if_neg (by omega), shl_wrap (by omega) (by omega), e1, e2, if_neg (by omega), if_pos (by simp; omega)]
    have em : (a.getD (n.toNat / 32) 0).tmod ((2 ^ (n.toNat % 32) : Nat) : Int) = (((a.getD (n.toNat / 32) 0).toNat % 2 ^ (n.toNat % 32) : Nat) : Int) := by
      rw [Int.tmod_eq_emod_of_nonneg g.1, Int.natCast_emod, Int.toNat_of_nonneg g.1]
    have hlt := Nat.mod_lt (a.getD (n.toNat / 32) 0).toNat hp0
    rw [em, gP ⟨dig_push hx (by omega), by simp; omega⟩, val_push, hxv, Int.toNat_natCast]
    have key : val a % 2 ^ n.toNat = v + 4294967296 ^ xs.length * ((a.getD (n.toNat / 32) 0).toNat % 2 ^ (n.toNat % 32)) := by
      have h1 := val_take_drop a (n := n.toNat / 32) (by omega)
      have h2 := val_take_lt ha (n.toNat / 32)
      rw [hv] at h1 h2
      rw [h1, val_drop_one, pow_split n.toNat, show xs.length = n.toNat / 32 by omega]
      generalize 4294967296 ^ (n.toNat / 32) = B at *
      rw [Nat.mod_mul, Nat.add_mul_mod_self_left, Nat.mod_eq_of_lt h2, Nat.add_mul_div_left _ _ (by omega), Nat.div_eq_of_lt h2, Nat.zero_add]
      have : 4294967296 * val (a.drop (n.toNat / 32 + 1)) = 2 ^ (n.toNat % 32) * (2 ^ (32 - n.toNat % 32) * val (a.drop (n.toNat / 32 + 1))) := by
        rw [← Nat.mul_assoc, ← Nat.pow_add, show n.toNat % 32 + (32 - n.toNat % 32) = 32 by omega]
      rw [this, Nat.add_mul_mod_self_left]
    rw [key]
  | succ d ih =>
    intro xs hd hx hxv
    rw [L6_eq, t1, wrap_i64 (n := n / 32) (by omega) (by omega), bD_pos (by omega), if_pos (by omega)]
    have hl2 : (xs ++ [(0 : Int)]).length = xs.length + 1 := by simp
    rw [← hl2]
    refine ih _ (by rw [hl2]; omega) (dig_push hx (by omega)) ?_
    rw [val_push, hxv]
    simp
noncomputable def sp (a : List Int) (n : Int) : Prop × List D := (Dig a ∧ a.length ≤ 1099511627776 ∧ -9223372036854775808 ≤ n ∧ n < 9223372036854775808, [.own tU32 .u32 (dg (val a % 2 ^ n.toNat))])
theorem spec (a : List Int) (n : Int) (h : (sp a n).1) : evalFn E Tryz.f133 cod [(pI .u32).put a, (pN .i64).put n] = some (sp a n).2 := by
  obtain ⟨ha, hl, h1, h2⟩ := h
  refine (start a n).trans ?_
  show _ = some [D.own tU32 .u32 (dg (val a % 2 ^ n.toNat))]
  by_cases h0 : n ≤ 0
  · rw [bD_pos h0, gP ⟨by omega, by omega⟩, show n.toNat = 0 by omega, Nat.pow_zero, Nat.mod_one]
  · have t1 : n.tdiv 32 = n / 32 := Int.tdiv_eq_ediv_of_nonneg (by omega)
    rw [bD_neg h0, t1, wrap_i64 (n := n / 32) (by omega) (by omega)]
    by_cases hc : (a.length : Int) ≤ n / 32
    · have hlt : val a < 2 ^ n.toNat := Nat.lt_of_lt_of_le (val_lt ha) (by rw [pow32]; exact Nat.pow_le_pow_right (by decide) (by omega))
      rw [bD_pos hc, gP ⟨ha, by omega⟩, Nat.mod_eq_of_lt hlt]
    · have e2 : (n / 32).toNat = n.toNat / 32 := by omega
      have hlen := len_val (ha.take (n.toNat / 32))
      rw [List.length_take] at hlen
      rw [bD_neg hc, if_pos (by omega), e2, List.drop_zero, gP ⟨ha.take _, by rw [List.length_take]; omega⟩]
      exact L ha hl (by omega) (by omega) rfl (n.toNat / 32 - (dg (val (a.take (n.toNat / 32)))).length) _ (by omega) (dig_dg _) (val_dg _)

noncomputable def orc : Orc := orc2 (pI .u32) (pN .i64) sp
theorem fnok : FnOk Tryz.prog E 133 Tryz.f133 cod := fnOk ty_ok mixed (callsOk_of _ rfl (orcs_cons Word.ok (orcs_cons Norm.ok orcs_nil)) (ext_ok)) Tryz.func133 rfl rfl rfl
theorem ok : OrcOk Tryz.prog base.glob 133 orc := fnok.ok2 rfl spec
end Low
end Go.Proofs.YtfebndgmmekmgaaGreatDoor.W

/- gnomon/gnomonref04.Flip -/
namespace Go.Proofs.YtfebndgmmekmgaaGreatDoor.W
open Go Go.Proofs.YtfebndgmmekmgaaGreatDoor.AI Go.Proofs.YtfebndgmmekmgaaGreatDoor.M
namespace Flip
noncomputable def E : Env := { ({ base with C := callsOf [(79, Mk.orc)] }) with nt := 9, own := [], keep := fun k => (tlook [] k).getD [], cut := tlook [] }
noncomputable def cod : Code := (Go.Proofs.Tryz.f137.body).getD .skip
theorem nok : namesOk E cod = true := by kernel_rfl
theorem start (a1 : Bool) (a2 : List Int) : evalFn E Go.Proofs.Tryz.f137 cod [D.agg [S.sc (Value.bool a1), S.ints IntKind.u32 a2]] = gif (Dig a2 ∧ a2.length ≤ (4398046511104 : Nat)) (some [D.agg [S.sc (Value.bool (isNeg (zs (!a1) (val a2)))), S.ints IntKind.u32 (dg (zs (!a1) (val a2)).natAbs)]]) := (evalFn_J rfl nok _).trans (by kernel_rfl)
-- stuck: 0
end Flip
namespace Flip
noncomputable def sp (x : Bool × List Int) : Prop × List D := (Zok x, [zD (-zv x)])
theorem spec (x : Bool × List Int) (h : (sp x).1) : evalFn E Tryz.f137 cod [(pG (.pair sB (sI .u32))).put x] = some (sp x).2 := by
  refine (start x.1 x.2).trans ((gP ⟨h.1.dig, by have := h.len; omega⟩).trans ?_)
  show _ = some [zD (-zv x)]
  have : zs (!x.1) (val x.2) = -zv x := by unfold zv zs; cases x.1 <;> simp
  rw [this]
  rfl

noncomputable def orc : Orc := orc1 (pG (.pair sB (sI .u32))) sp
theorem fnok : FnOk Tryz.prog E 137 Tryz.f137 cod := fnOk ty_ok mixed (callsOk_of _ rfl (orcs_cons Mk.ok orcs_nil) (ext_ok)) Tryz.func137 rfl rfl rfl
theorem ok : OrcOk Tryz.prog base.glob 137 orc := fnok.ok1 rfl spec
end Flip
end Go.Proofs.YtfebndgmmekmgaaGreatDoor.W

/- gnomon/gnomonref04.Sub -/
namespace Go.Proofs.YtfebndgmmekmgaaGreatDoor.W
open Go Go.Proofs.YtfebndgmmekmgaaGreatDoor.AI Go.Proofs.YtfebndgmmekmgaaGreatDoor.M
namespace ZSub
noncomputable def E : Env := { ({ base with C := callsOf [(82, ZAdd.orc), (137, Flip.orc)] }) with nt := 9, own := [], keep := fun k => (tlook [] k).getD [], cut := tlook [] }
noncomputable def cod : Code := (Go.Proofs.Tryz.f83.body).getD .skip
theorem nok : namesOk E cod = true := by kernel_rfl
theorem start (a1 : Bool) (a2 : List Int) (b1 : Bool) (b2 : List Int) : evalFn E Go.Proofs.Tryz.f83 cod [D.agg [S.sc (Value.bool a1), S.ints IntKind.u32 a2], D.agg [S.sc (Value.bool b1), S.ints IntKind.u32 b2]] = gif (Zok (b1, b2)) (gif (Zok (a1, a2) ∧ Zok (isNeg (-zv (b1, b2)), dg (-zv (b1, b2)).natAbs)) (some [D.agg [S.sc (Value.bool (isNeg (zv (a1, a2) + zv (isNeg (-zv (b1, b2)), dg (-zv (b1, b2)).natAbs)))), S.ints IntKind.u32 (dg (zv (a1, a2) + zv (isNeg (-zv (b1, b2)), dg (-zv (b1, b2)).natAbs)).natAbs)]])) := (evalFn_J rfl nok _).trans (by kernel_rfl)
-- stuck: 0
end ZSub
namespace ZSub
noncomputable def sp (x y : Bool × List Int) : Prop × List D := (Zok x ∧ Zok y, [zD (zv x - zv y)])
theorem spec (x y : Bool × List Int) (h : (sp x y).1) : evalFn E Tryz.f83 cod [(pG (.pair sB (sI .u32))).put x, (pG (.pair sB (sI .u32))).put y] = some (sp x y).2 := by
  refine (start x.1 x.2 y.1 y.2).trans ?_
  obtain ⟨hx, hy⟩ := h
  have l2 := hy.len
  rw [gP hy, gP ⟨hx, zok_zD (by rw [Int.natAbs_neg, zv_abs, nrm_len hy.1]; exact l2)⟩, zv_zD]
  show _ = some [zD (zv x - zv y)]
  rw [Int.sub_eq_add_neg]
  rfl

noncomputable def orc : Orc := orc2 (pG (.pair sB (sI .u32))) (pG (.pair sB (sI .u32))) sp
theorem fnok : FnOk Tryz.prog E 83 Tryz.f83 cod := fnOk ty_ok mixed (callsOk_of _ rfl (orcs_cons ZAdd.ok (orcs_cons Flip.ok orcs_nil)) (ext_ok)) Tryz.func83 rfl rfl rfl
theorem ok : OrcOk Tryz.prog base.glob 83 orc := fnok.ok2 rfl spec
end ZSub
end Go.Proofs.YtfebndgmmekmgaaGreatDoor.W

/- gnomon/gnomonref04.Of -/
namespace Go.Proofs.YtfebndgmmekmgaaGreatDoor.W
open Go Go.Proofs.YtfebndgmmekmgaaGreatDoor.AI Go.Proofs.YtfebndgmmekmgaaGreatDoor.M
namespace ZOf
noncomputable def E : Env := { ({ base with C := callsOf [(79, Mk.orc), (134, Add.orc), (130, Word.orc)] }) with nt := 17, own := [], keep := fun k => (tlook [] k).getD [], cut := tlook [] }
noncomputable def cod : Code := (Go.Proofs.Tryz.f90.body).getD .skip
theorem nok : namesOk E cod = true := by kernel_rfl
theorem start (a : Int) : evalFn E Go.Proofs.Tryz.f90 cod [D.s (S.sc (Value.int IntKind.i64 a))] = bcase (decide (a < (0 : Int))) (gif ((0 : Int) ≤ IntKind.u64.wrap (IntKind.i64.wrap ((0 : Int) - IntKind.i64.wrap (a + (1 : Int)))) ∧ IntKind.u64.wrap (IntKind.i64.wrap ((0 : Int) - IntKind.i64.wrap (a + (1 : Int)))) < (18446744073709551616 : Int)) (gif ((0 : Int) ≤ (1 : Int) ∧ (1 : Int) < (18446744073709551616 : Int)) (gif (Dig (dg (IntKind.u64.wrap (IntKind.i64.wrap ((0 : Int) - IntKind.i64.wrap (a + (1 : Int))))).toNat) ∧ Dig (dg (1 : Nat)) ∧ (dg (IntKind.u64.wrap (IntKind.i64.wrap ((0 : Int) - IntKind.i64.wrap (a + (1 : Int))))).toNat).length ≤ (1099511627776 : Nat) ∧ (dg (1 : Nat)).length ≤ (1099511627776 : Nat)) (gif (Dig (dg (val (dg (IntKind.u64.wrap (IntKind.i64.wrap ((0 : Int) - IntKind.i64.wrap (a + (1 : Int))))).toNat) + val (dg (1 : Nat)))) ∧ (dg (val (dg (IntKind.u64.wrap (IntKind.i64.wrap ((0 : Int) - IntKind.i64.wrap (a + (1 : Int))))).toNat) + val (dg (1 : Nat)))).length ≤ (4398046511104 : Nat)) (some [D.agg [S.sc (Value.bool (isNeg (zs true (val (dg (val (dg (IntKind.u64.wrap (IntKind.i64.wrap ((0 : Int) - IntKind.i64.wrap (a + (1 : Int))))).toNat) + val (dg (1 : Nat)))))))), S.ints IntKind.u32 (dg (zs true (val (dg (val (dg (IntKind.u64.wrap (IntKind.i64.wrap ((0 : Int) - IntKind.i64.wrap (a + (1 : Int))))).toNat) + val (dg (1 : Nat)))))).natAbs)]]))))) (gif ((0 : Int) ≤ IntKind.u64.wrap a ∧ IntKind.u64.wrap a < (18446744073709551616 : Int)) (gif (Dig (dg (IntKind.u64.wrap a).toNat) ∧ (dg (IntKind.u64.wrap a).toNat).length ≤ (4398046511104 : Nat)) (some [D.agg [S.sc (Value.bool (isNeg (zs false (val (dg (IntKind.u64.wrap a).toNat))))), S.ints IntKind.u32 (dg (zs false (val (dg (IntKind.u64.wrap a).toNat))).natAbs)]]))) := (evalFn_J rfl nok _).trans (by kernel_rfl)
-- stuck: 0
end ZOf
namespace ZOf
noncomputable def sp (a : Int) : Prop × List D := (-9223372036854775808 ≤ a ∧ a < 9223372036854775808, [zD a])
theorem len64 {n : Nat} (h : n < 18446744073709551616) : (dg n).length ≤ 2 := len_dg_le (by simpa using h)
theorem spec (a : Int) (h : (sp a).1) : evalFn E Tryz.f90 cod [(pN .i64).put a] = some (sp a).2 := by
  obtain ⟨h1, h2⟩ := h
  refine (start a).trans ?_
  show _ = some [zD a]
  simp only [val_dg]
  by_cases hn : a < 0
  · have e : IntKind.u64.wrap (IntKind.i64.wrap (0 - IntKind.i64.wrap (a + 1))) = -(a + 1) := by
      rw [wrap_i64 (n := a + 1) (by omega) (by omega), wrap_i64 (by omega) (by omega), wrap_u64 (by omega) (by omega)]; omega
    have l1 := len64 (n := (-(a + 1)).toNat) (by omega)
    have l2 := len64 (n := (-(a + 1)).toNat + 1) (by omega)
    have l3 := len64 (n := 1) (by omega)
    rw [bD_pos hn, e, gP ⟨by omega, by omega⟩, gP ⟨by omega, by omega⟩, gP ⟨dig_dg _, dig_dg _, by omega, by omega⟩, gP ⟨dig_dg _, by omega⟩]
    have ez : zs true ((-(a + 1)).toNat + 1) = a := by unfold zs; simp only [cond_true]; omega
    rw [ez]
    rfl
  · have l1 := len64 (n := a.toNat) (by omega)
    rw [bD_neg hn, wrap_u64 (by omega) (by omega), gP ⟨by omega, by omega⟩, gP ⟨dig_dg _, by omega⟩]
    have ez : zs false a.toNat = a := by unfold zs; simp only [cond_false]; omega
    rw [ez]
    rfl

noncomputable def orc : Orc := orc1 (pN .i64) sp
theorem fnok : FnOk Tryz.prog E 90 Tryz.f90 cod := fnOk ty_ok mixed (callsOk_of _ rfl (orcs_cons Mk.ok (orcs_cons Add.ok (orcs_cons Word.ok orcs_nil))) (ext_ok)) Tryz.func90 rfl rfl rfl
theorem ok : OrcOk Tryz.prog base.glob 90 orc := fnok.ok1 rfl spec
end ZOf
end Go.Proofs.YtfebndgmmekmgaaGreatDoor.W

/- gnomon/gnomonref04.FloorShr -/
namespace Go.Proofs.YtfebndgmmekmgaaGreatDoor.W
open Go Go.Proofs.YtfebndgmmekmgaaGreatDoor.AI Go.Proofs.YtfebndgmmekmgaaGreatDoor.M
namespace ZFloorShr
noncomputable def E : Env := { ({ base with C := callsOf [(79, Mk.orc), (86, Shr.orc), (133, Low.orc), (83, ZSub.orc), (90, ZOf.orc)] }) with nt := 34, own := [], keep := fun k => (tlook [] k).getD [], cut := tlook [] }
noncomputable def cod : Code := (Go.Proofs.Tryz.f81.body).getD .skip
theorem nok : namesOk E cod = true := by kernel_rfl
theorem start (a1 : Bool) (a2 : List Int) (b : Int) : evalFn E Go.Proofs.Tryz.f81 cod [D.agg [S.sc (Value.bool a1), S.ints IntKind.u32 a2], D.s (S.sc (Value.int IntKind.i64 b))] = bcase (decide (b ≤ (0 : Int))) (gif (Dig a2 ∧ a2.length ≤ (4398046511104 : Nat)) (some [D.agg [S.sc (Value.bool (isNeg (zs a1 (val a2)))), S.ints IntKind.u32 (dg (zs a1 (val a2)).natAbs)]])) (gif (Dig a2 ∧ a2.length ≤ (1099511627776 : Nat) ∧ b < (9223372036854775808 : Int)) (gif (Dig (dg (val a2 / (2 : Nat) ^ b.toNat)) ∧ (dg (val a2 / (2 : Nat) ^ b.toNat)).length ≤ (4398046511104 : Nat)) (bcase a1 (gif (Dig a2 ∧ a2.length ≤ (1099511627776 : Nat) ∧ (-9223372036854775808 : Int) ≤ b ∧ b < (9223372036854775808 : Int)) (bcase (decide ((0 : Int) < (↑(dg (val a2 % (2 : Nat) ^ b.toNat)).length : Int))) (gif ((-9223372036854775808 : Int) ≤ (1 : Int) ∧ (1 : Int) < (9223372036854775808 : Int)) (gif (Zok (isNeg (zs a1 (val (dg (val a2 / (2 : Nat) ^ b.toNat)))), dg (zs a1 (val (dg (val a2 / (2 : Nat) ^ b.toNat)))).natAbs) ∧ Zok (isNeg (1 : Int), dg (1 : Nat))) (some [D.agg [S.sc (Value.bool (isNeg (zv (isNeg (zs a1 (val (dg (val a2 / (2 : Nat) ^ b.toNat)))), dg (zs a1 (val (dg (val a2 / (2 : Nat) ^ b.toNat)))).natAbs) - zv (isNeg (1 : Int), dg (1 : Nat))))), S.ints IntKind.u32 (dg (zv (isNeg (zs a1 (val (dg (val a2 / (2 : Nat) ^ b.toNat)))), dg (zs a1 (val (dg (val a2 / (2 : Nat) ^ b.toNat)))).natAbs) - zv (isNeg (1 : Int), dg (1 : Nat))).natAbs)]]))) (some [D.agg [S.sc (Value.bool (isNeg (zs a1 (val (dg (val a2 / (2 : Nat) ^ b.toNat)))))), S.ints IntKind.u32 (dg (zs a1 (val (dg (val a2 / (2 : Nat) ^ b.toNat)))).natAbs)]]))) (some [D.agg [S.sc (Value.bool (isNeg (zs a1 (val (dg (val a2 / (2 : Nat) ^ b.toNat)))))), S.ints IntKind.u32 (dg (zs a1 (val (dg (val a2 / (2 : Nat) ^ b.toNat)))).natAbs)]])))) := (evalFn_J rfl nok _).trans (by kernel_rfl)
-- stuck: 0
end ZFloorShr
namespace ZFloorShr
theorem neg_div (v q : Nat) (hq : 0 < q) : (-(v : Int)) / (q : Int) = if v % q = 0 then -((v / q : Nat) : Int) else -((v / q : Nat) : Int) - 1 := by
  have hd := Nat.div_add_mod v q
  have hm := Nat.mod_lt v hq
  by_cases h : v % q = 0
  · rw [if_pos h]
    have e : -(v : Int) = (q : Int) * (-((v / q : Nat) : Int)) := by
      rw [Int.mul_neg, ← Int.natCast_mul]
      generalize q * (v / q) = t at *
      omega
    rw [e, Int.mul_ediv_cancel_left _ (by omega)]
  · rw [if_neg h]
    have e : -(v : Int) = ((q - v % q : Nat) : Int) + (q : Int) * (-((v / q : Nat) : Int) - 1) := by
      rw [Int.mul_sub, Int.mul_neg, ← Int.natCast_mul, Int.mul_one]
      generalize q * (v / q) = t at *
      generalize v % q = r at *
      omega
    rw [e, Int.add_mul_ediv_left _ _ (by omega), Int.ediv_eq_zero_of_lt (by omega) (by omega)]
    omega
noncomputable def sp (x : Bool × List Int) (n : Int) : Prop × List D := (Zok x ∧ -9223372036854775808 ≤ n ∧ n < 9223372036854775808, [zD (zv x / ((2 ^ n.toNat : Nat) : Int))])
theorem spec (x : Bool × List Int) (n : Int) (h : (sp x n).1) : evalFn E Tryz.f81 cod [(pG (.pair sB (sI .u32))).put x, (pN .i64).put n] = some (sp x n).2 := by
  obtain ⟨hx, h1, h2⟩ := h
  refine (start x.1 x.2 n).trans ?_
  have l1 := hx.len
  have hc := hx.cells
  show _ = some [zD (zv x / ((2 ^ n.toNat : Nat) : Int))]
  have hp : 0 < 2 ^ n.toNat := Nat.pow_pos (by decide)
  by_cases h0 : n ≤ 0
  · rw [bD_pos h0, gP ⟨hx.1.dig, by omega⟩, show n.toNat = 0 by omega]
    show some [zD (zv x)] = _
    rw [show zv x / ((2 ^ 0 : Nat) : Int) = zv x by rw [Nat.pow_zero]; omega]
  · have hq := len_dg_div (val x.2) (2 ^ n.toNat)
    rw [nrm_len hx.1] at hq
    rw [bD_neg h0, gP ⟨hx.1.dig, by omega, h2⟩, gP ⟨dig_dg _, by omega⟩, val_dg]
    obtain ⟨b, a⟩ := x
    dsimp only at *
    cases b with
    | false =>
      rw [bF]
      have : zv (false, a) / ((2 ^ n.toNat : Nat) : Int) = zs false (val a / 2 ^ n.toNat) := by
        rw [show zv (false, a) = (val a : Int) from rfl, ← Int.natCast_ediv]
        rfl
      rw [this]
      rfl
    | true =>
      rw [bT, gP ⟨hx.1.dig, by omega, h1, h2⟩]
      have hz : zv (true, a) = -(val a : Int) := rfl
      have e := neg_div (val a) (2 ^ n.toNat) hp
      have hl : (0 : Int) < ((dg (val a % 2 ^ n.toNat)).length : Int) ↔ val a % 2 ^ n.toNat ≠ 0 := by
        have := dg_len_zero (n := val a % 2 ^ n.toNat)
        omega
      have hz1 : Zok (isNeg (zs true (val a / 2 ^ n.toNat)), dg (zs true (val a / 2 ^ n.toNat)).natAbs) := zok_zD (by rw [zs_abs]; omega)
      rw [hz, e]
      by_cases hr : val a % 2 ^ n.toNat = 0
      · rw [bD_neg (fun h => hl.1 h hr), if_pos hr]
        rfl
      · rw [bD_pos (hl.2 hr), if_neg hr, gP ⟨by omega, by omega⟩, gP ⟨hz1, zok_zD (z := 1) (by show (dg 1).length ≤ _; rw [dg_one]; simp)⟩, zv_zD]
        have e1 : zv (isNeg 1, dg 1) = 1 := zv_zD 1
        rw [e1]
        rfl

noncomputable def orc : Orc := orc2 (pG (.pair sB (sI .u32))) (pN .i64) sp
theorem fnok : FnOk Tryz.prog E 81 Tryz.f81 cod := fnOk ty_ok mixed (callsOk_of _ rfl (orcs_cons Mk.ok (orcs_cons Shr.ok (orcs_cons Low.ok (orcs_cons ZSub.ok (orcs_cons ZOf.ok orcs_nil))))) (ext_ok)) Tryz.func81 rfl rfl rfl
theorem ok : OrcOk Tryz.prog base.glob 81 orc := fnok.ok2 rfl spec
end ZFloorShr
end Go.Proofs.YtfebndgmmekmgaaGreatDoor.W

/- gnomon/gnomonref01.Mul -/
namespace Go.Proofs.YtfebndgmmekmgaaGreatDoor.W
open Go Go.Proofs.YtfebndgmmekmgaaGreatDoor.AI Go.Proofs.YtfebndgmmekmgaaGreatDoor.M
namespace Mul
noncomputable def E : Env := { ({ base with C := callsOf [(132, Norm.orc)] }) with nt := 70, own := [69], keep := fun k => (tlook [(8, [0, 1, 5, 6, 7, 8, 9]), (3, [0, 1, 5, 6])] k).getD [], cut := tlook [] }
noncomputable def cod : Code := (Go.Proofs.Tryz.f138.body).getD .skip
theorem nok : namesOk E cod = true := by kernel_rfl
noncomputable def L3 (xs0 : List Int) (xs1 : List Int) (m2 : Nat) (xs3 : List Int) (x4 : Int) : Option (List D) := lpO E Go.Proofs.Tryz.f138 cod 3 [(A.v (V.one (L.s (S.ints IntKind.u32 xs0))), none), (A.v (V.one (L.s (S.ints IntKind.u32 xs1))), none), (A.v (V.one (L.buf (2 : Nat) m2)), some { e := (180 : Nat), cont := Cont.ints IntKind.u32 xs3 }), (A.v (V.one (L.s (S.sc (Value.int IntKind.i64 x4)))), none)]
noncomputable def L8 (xs0 : List Int) (xs1 : List Int) (m2 : Nat) (xs3 : List Int) (x4 : Int) (x5 : Int) (x6 : Int) (x7 : Int) : Option (List D) := lpO E Go.Proofs.Tryz.f138 cod 8 [(A.v (V.one (L.s (S.ints IntKind.u32 xs0))), none), (A.v (V.one (L.s (S.ints IntKind.u32 xs1))), none), (A.v (V.one (L.buf (2 : Nat) m2)), some { e := (180 : Nat), cont := Cont.ints IntKind.u32 xs3 }), (A.v (V.one (L.s (S.sc (Value.int IntKind.i64 x4)))), none), (A.v (V.one (L.s (S.sc (Value.int IntKind.u64 x5)))), none), (A.v (V.one (L.s (S.sc (Value.int IntKind.u64 x6)))), none), (A.v (V.one (L.s (S.sc (Value.int IntKind.i64 x7)))), none)]
theorem start (a : List Int) (b : List Int) : evalFn E Go.Proofs.Tryz.f138 cod [D.s (S.ints IntKind.u32 a), D.s (S.ints IntKind.u32 b)] = if (0 : Int) ≤ IntKind.i64.wrap ((↑a.length : Int) + (↑b.length : Int)) ∧ IntKind.i64.wrap ((↑a.length : Int) + (↑b.length : Int)) ≤ IntKind.i64.wrap ((↑a.length : Int) + (↑b.length : Int)) ∧ IntKind.i64.wrap ((↑a.length : Int) + (↑b.length : Int)) ≤ (8796093022208 : Int) then Mul.L3 a b (IntKind.i64.wrap ((↑a.length : Int) + (↑b.length : Int))).toNat (List.replicate (IntKind.i64.wrap ((↑a.length : Int) + (↑b.length : Int))).toNat (0 : Int)) (0 : Int) else none := (evalFn_J rfl nok _).trans (by kernel_rfl)
theorem L3_eq (xs0 : List Int) (xs1 : List Int) (m2 : Nat) (xs3 : List Int) (x4 : Int) : L3 xs0 xs1 m2 xs3 x4 = bcase (decide (x4 < (↑xs0.length : Int))) (if (0 : Int) ≤ x4 ∧ x4 < (↑xs0.length : Int) then Mul.L8 xs0 xs1 m2 xs3 x4 (0 : Int) (IntKind.u64.wrap (xs0.getD x4.toNat (0 : Int))) (0 : Int) else none) (gif (Dig xs3 ∧ xs3.length ≤ (4398046511104 : Nat)) (some [D.own (180 : Nat) IntKind.u32 (dg (val xs3))])) := (loopAt_J rfl nok 3 _).trans (by kernel_rfl)
theorem L8_eq (xs0 : List Int) (xs1 : List Int) (m2 : Nat) (xs3 : List Int) (x4 : Int) (x5 : Int) (x6 : Int) (x7 : Int) : L8 xs0 xs1 m2 xs3 x4 x5 x6 x7 = bcase (decide (x7 < (↑xs1.length : Int))) (if (0 : Int) ≤ IntKind.i64.wrap (x4 + x7) ∧ IntKind.i64.wrap (x4 + x7) < (↑m2 : Int) then if (0 : Int) ≤ x7 ∧ x7 < (↑xs1.length : Int) then if (0 : Int) ≤ IntKind.i64.wrap (x4 + x7) ∧ IntKind.i64.wrap (x4 + x7) < (↑m2 : Int) then Mul.L8 xs0 xs1 m2 (xs3.set (IntKind.i64.wrap (x4 + x7)).toNat (IntKind.u32.wrap (bitsI BinOp.and IntKind.u64 (IntKind.u64.wrap (x5 + IntKind.u64.wrap (IntKind.u64.wrap (xs3.getD (IntKind.i64.wrap (x4 + x7)).toNat (0 : Int)) + IntKind.u64.wrap (x6 * IntKind.u64.wrap (xs1.getD x7.toNat (0 : Int)))))) (4294967295 : Int)))) x4 (IntKind.u64.wrap (x5 + IntKind.u64.wrap (IntKind.u64.wrap (xs3.getD (IntKind.i64.wrap (x4 + x7)).toNat (0 : Int)) + IntKind.u64.wrap (x6 * IntKind.u64.wrap (xs1.getD x7.toNat (0 : Int))))) / (4294967296 : Int)) x6 (IntKind.i64.wrap (x7 + (1 : Int))) else none else none else none) (if (0 : Int) ≤ IntKind.i64.wrap (x4 + (↑xs1.length : Int)) ∧ IntKind.i64.wrap (x4 + (↑xs1.length : Int)) < (↑m2 : Int) then Mul.L3 xs0 xs1 m2 (xs3.set (IntKind.i64.wrap (x4 + (↑xs1.length : Int))).toNat (IntKind.u32.wrap x5)) (IntKind.i64.wrap (x4 + (1 : Int))) else none) := (loopAt_J rfl nok 8 _).trans (by kernel_rfl)
-- stuck: 0
end Mul
namespace Mul
theorem val_set {a : List Int} {n : Nat} (h : n < a.length) (d : Int) : val (a.set n d) + 4294967296 ^ n * (a.getD n 0).toNat = val a + 4294967296 ^ n * d.toNat := by
  have h1 := val_take_drop (a.set n d) (n := n) (by rw [List.length_set]; omega)
  have h2 := val_take_drop a (n := n) (by omega)
  rw [List.take_set_of_le (Nat.le_refl n), val_drop_set h] at h1
  rw [val_drop_one] at h2
  rw [h1, h2, Nat.mul_add, Nat.mul_add]
  omega
theorem getD_set {a : List Int} {n m : Nat} (h : n ≠ m) (d : Int) : (a.set n d).getD m 0 = a.getD m 0 := by
  simp only [List.getD_eq_getElem?_getD]
  rw [List.getElem?_set_ne h]
theorem inner {a b : List Int} (hb : Dig b) (hla : a.length ≤ 549755813888) (hlb : b.length ≤ 549755813888) {i : Nat} (hi : i < a.length) {x : Int} (hx0 : 0 ≤ x) (hx1 : x < 4294967296) {V : Nat}
    (K : List Int → Option (List D)) (hK : ∀ p c, Dig p → p.length = a.length + b.length → (0 ≤ c ∧ c < 4294967296) → (∀ k, i + b.length ≤ k → p.getD k 0 = 0) → val p + 4294967296 ^ (i + b.length) * c.toNat = V + 4294967296 ^ i * (x.toNat * val b) → L3 a b (a.length + b.length) (p.set (i + b.length) c) ((i + 1 : Nat) : Int) = K p) :
    ∀ (d j : Nat) (p : List Int) (c : Int), Dig p → p.length = a.length + b.length → 0 ≤ c → c < 4294967296 → (∀ k, i + b.length ≤ k → p.getD k 0 = 0) → j + d = b.length →
    val p + 4294967296 ^ (i + j) * c.toNat = V + 4294967296 ^ i * (x.toNat * val (b.take j)) →
    ∃ q, L8 a b (a.length + b.length) p (i : Int) c x (j : Int) = K q := by
  intro d
  induction d with
  | zero =>
    intro j p c hp hl h0 h1 hz hd hv
    have hj : j = b.length := by omega
    subst hj
    rw [List.take_length] at hv
    rw [L8_eq, bD_neg (by omega), wrap_i64 (n := (i : Int) + (b.length : Int)) (by omega) (by omega), if_pos (by omega), wrap_u32, Int.emod_eq_of_lt h0 h1, wrap_i64 (n := (i : Int) + 1) (by omega) (by omega), show ((i : Int) + (b.length : Int)).toNat = i + b.length by omega]
    exact ⟨p, hK p c hp hl ⟨h0, h1⟩ hz hv⟩
  | succ d ih =>
    intro j p c hp hl h0 h1 hz hd hv
    have g1 := hb.get j
    have g2 := hp.get (i + j)
    have hm : x * b.getD j 0 ≤ 4294967295 * 4294967295 := by
      have h1 : x * b.getD j 0 ≤ 4294967295 * b.getD j 0 := Int.mul_le_mul_of_nonneg_right (by omega) g1.1
      omega
    have hm0 : 0 ≤ x * b.getD j 0 := Int.mul_nonneg hx0 g1.1
    have e' : ((i : Int) + (j : Int)).toNat = i + j := by omega
    rw [L8_eq, bD_pos (by omega), wrap_i64 (n := (i : Int) + (j : Int)) (by omega) (by omega), if_pos (by omega), if_pos (by omega), if_pos (by omega), e', Int.toNat_natCast, wrap_u64 (n := p.getD (i + j) 0) (by omega) (by omega), wrap_u64 (n := b.getD j 0) (by omega) (by omega), wrap_u64 (n := x * b.getD j 0) (by omega) (by omega), wrap_u64 (n := p.getD (i + j) 0 + x * b.getD j 0) (by omega) (by omega), wrap_u64 (n := c + (p.getD (i + j) 0 + x * b.getD j 0)) (by omega) (by omega),
      and_mask32 (by omega) (by omega), wrap_u32, Int.emod_emod_of_dvd _ (Int.dvd_refl _), wrap_i64 (n := (j : Int) + 1) (by omega) (by omega)]
    have hs := val_set (a := p) (n := i + j) (by omega) ((c + (p.getD (i + j) 0 + x * b.getD j 0)) % 4294967296)
    refine ih (j + 1) _ _ (dig_set hp (by omega)) (by rw [List.length_set]; exact hl) (by omega) (by omega) (fun k hk => by rw [getD_set (by omega)]; exact hz k hk) (by omega) ?_
    rw [val_take_one, Nat.mul_add]
    have et : (x * b.getD j 0).toNat = x.toNat * (b.getD j 0).toNat := Int.toNat_mul hx0 g1.1
    have e : 4294967296 * ((c + (p.getD (i + j) 0 + x * b.getD j 0)) / 4294967296).toNat + ((c + (p.getD (i + j) 0 + x * b.getD j 0)) % 4294967296).toNat = c.toNat + ((p.getD (i + j) 0).toNat + x.toNat * (b.getD j 0).toNat) := by rw [← et]; omega
    have pw : 4294967296 ^ (i + (j + 1)) = 4294967296 ^ (i + j) * 4294967296 := by rw [← Nat.add_assoc, Nat.pow_succ]
    have pi : 4294967296 ^ i * (x.toNat * (4294967296 ^ j * (b.getD j 0).toNat)) = 4294967296 ^ (i + j) * (x.toNat * (b.getD j 0).toNat) := by
      rw [Nat.pow_add, Nat.mul_left_comm x.toNat, ← Nat.mul_assoc]
    rw [pw, Nat.mul_add, pi]
    generalize 4294967296 ^ (i + j) = B at *
    generalize (c + (p.getD (i + j) 0 + x * b.getD j 0)) / 4294967296 = u at *
    generalize (c + (p.getD (i + j) 0 + x * b.getD j 0)) % 4294967296 = w at *
    have e2 := congrArg (B * ·) e
    rw [Nat.mul_add, Nat.mul_add, Nat.mul_add] at e2
    rw [Nat.mul_assoc]
    omega
theorem outer {a b : List Int} (ha : Dig a) (hb : Dig b) (hla : a.length ≤ 549755813888) (hlb : b.length ≤ 549755813888) : ∀ (d i : Nat) (p : List Int), Dig p → p.length = a.length + b.length → (∀ k, i + b.length ≤ k → p.getD k 0 = 0) → i + d = a.length → val p = val (a.take i) * val b →
    L3 a b (a.length + b.length) p (i : Int) = some [D.own tU32 .u32 (dg (val a * val b))] := by
  intro d
  induction d with
  | zero =>
    intro i p hp hl hz hd hv
    rw [L3_eq, bD_neg (by omega), gP ⟨hp, by omega⟩, hv, val_take_ge (by omega)]
  | succ d ih =>
    intro i p hp hl hz hd hv
    have g := ha.get i
    rw [L3_eq, bD_pos (by omega), if_pos (by omega), Int.toNat_natCast, wrap_u64 (n := a.getD i 0) (by omega) (by omega)]
    obtain ⟨q, hq⟩ := inner (a := a) (b := b) hb hla hlb (i := i) (by omega) g.1 g.2 (V := val p) (fun _ => some [D.own tU32 .u32 (dg (val a * val b))]) (by
      intro q c hq hql hc hqz hqv
      have g3 := hqz (i + b.length) (Nat.le_refl _)
      have hs := val_set (a := q) (n := i + b.length) (by omega) c
      rw [g3, show (0 : Int).toNat = 0 from rfl, Nat.mul_zero, Nat.add_zero, hqv] at hs
      refine ih (i + 1) _ (dig_set hq hc) (by rw [List.length_set]; exact hql) (fun k hk => by rw [getD_set (by omega)]; exact hqz k (by omega)) (by omega) ?_
      rw [hs, hv, val_take_one, Nat.add_mul, Nat.mul_assoc]) b.length 0 p 0 hp hl (by omega) (by omega) hz (by omega) (by simp [val])
    exact hq
noncomputable def sp (a b : List Int) : Prop × List D := (Dig a ∧ Dig b ∧ a.length ≤ 549755813888 ∧ b.length ≤ 549755813888, [.own tU32 .u32 (dg (val a * val b))])
theorem spec (a b : List Int) (h : (sp a b).1) : evalFn E Tryz.f138 cod [(pI .u32).put a, (pI .u32).put b] = some (sp a b).2 := by
  obtain ⟨ha, hb, h1, h2⟩ := h
  refine (start a b).trans ?_
  have e : IntKind.i64.wrap ((a.length : Int) + (b.length : Int)) = ((a.length + b.length : Nat) : Int) := by rw [wrap_i64 (by omega) (by omega)]; omega
  rw [e, if_pos (by omega), Int.toNat_natCast]
  refine outer ha hb h1 h2 a.length 0 _ (dig_replicate _) (by simp) (fun k _ => ?_) (by omega) (by simp [val, val_replicate])
  simp only [List.getD_eq_getElem?_getD, List.getElem?_replicate]
  split <;> rfl

noncomputable def orc : Orc := orc2 (pI .u32) (pI .u32) sp
theorem fnok : FnOk Tryz.prog E 138 Tryz.f138 cod := fnOk ty_ok mixed (callsOk_of _ rfl (orcs_cons Norm.ok orcs_nil) (ext_ok)) Tryz.func138 rfl rfl rfl
theorem ok : OrcOk Tryz.prog base.glob 138 orc := fnok.ok2 rfl spec
end Mul
end Go.Proofs.YtfebndgmmekmgaaGreatDoor.W

/- gnomon/gnomonref04.Mul -/
namespace Go.Proofs.YtfebndgmmekmgaaGreatDoor.W
open Go Go.Proofs.YtfebndgmmekmgaaGreatDoor.AI Go.Proofs.YtfebndgmmekmgaaGreatDoor.M
namespace ZMul
noncomputable def E : Env := { ({ base with C := callsOf [(138, Mul.orc), (79, Mk.orc)] }) with nt := 16, own := [], keep := fun k => (tlook [] k).getD [], cut := tlook [] }
noncomputable def cod : Code := (Go.Proofs.Tryz.f84.body).getD .skip
theorem nok : namesOk E cod = true := by kernel_rfl
theorem start (a1 : Bool) (a2 : List Int) (b1 : Bool) (b2 : List Int) : evalFn E Go.Proofs.Tryz.f84 cod [D.agg [S.sc (Value.bool a1), S.ints IntKind.u32 a2], D.agg [S.sc (Value.bool b1), S.ints IntKind.u32 b2]] = gif (Dig a2 ∧ Dig b2 ∧ a2.length ≤ (549755813888 : Nat) ∧ b2.length ≤ (549755813888 : Nat)) (gif (Dig (dg (val a2 * val b2)) ∧ (dg (val a2 * val b2)).length ≤ (4398046511104 : Nat)) (some [D.agg [S.sc (Value.bool (isNeg (zs (a1 != b1) (val (dg (val a2 * val b2)))))), S.ints IntKind.u32 (dg (zs (a1 != b1) (val (dg (val a2 * val b2)))).natAbs)]])) := (evalFn_J rfl nok _).trans (by kernel_rfl)
-- stuck: 0
end ZMul
namespace ZMul
noncomputable def sp (x y : Bool × List Int) : Prop × List D := (Zok x ∧ Zok y, [zD (zv x * zv y)])
theorem spec (x y : Bool × List Int) (h : (sp x y).1) : evalFn E Tryz.f84 cod [(pG (.pair sB (sI .u32))).put x, (pG (.pair sB (sI .u32))).put y] = some (sp x y).2 := by
  obtain ⟨hx, hy⟩ := h
  refine (start x.1 x.2 y.1 y.2).trans ?_
  have l1 := hx.len
  have l2 := hy.len
  have hl : (dg (val x.2 * val y.2)).length ≤ x.2.length + y.2.length := by
    refine len_dg_le ?_
    rw [Nat.pow_add]
    exact Nat.mul_lt_mul_of_lt_of_lt (val_lt hx.1.dig) (val_lt hy.1.dig)
  rw [gP ⟨hx.1.dig, hy.1.dig, by omega, by omega⟩, gP ⟨dig_dg _, by omega⟩, val_dg]
  show _ = some [zD (zv x * zv y)]
  have : zs (x.1 != y.1) (val x.2 * val y.2) = zv x * zv y := by
    unfold zv zs
    cases x.1 <;> cases y.1 <;> simp [Int.natCast_mul, Int.neg_mul, Int.mul_neg]
  rw [this]
  rfl

noncomputable def orc : Orc := orc2 (pG (.pair sB (sI .u32))) (pG (.pair sB (sI .u32))) sp
theorem fnok : FnOk Tryz.prog E 84 Tryz.f84 cod := fnOk ty_ok mixed (callsOk_of _ rfl (orcs_cons Mul.ok (orcs_cons Mk.ok orcs_nil)) (ext_ok)) Tryz.func84 rfl rfl rfl
theorem ok : OrcOk Tryz.prog base.glob 84 orc := fnok.ok2 rfl spec
end ZMul
end Go.Proofs.YtfebndgmmekmgaaGreatDoor.W

/- gnomon/gnomonref17.Split -/
namespace Go.Proofs.YtfebndgmmekmgaaGreatDoor.W
open Go Go.Proofs.YtfebndgmmekmgaaGreatDoor.AI Go.Proofs.YtfebndgmmekmgaaGreatDoor.M
namespace Split17
noncomputable def E : Env := { ({ base with C := callsOf [(77, Number17.orc), (78, ZShl.orc), (80, Pow2.orc), (79, Mk.orc), (82, ZAdd.orc), (81, ZFloorShr.orc), (83, ZSub.orc), (84, ZMul.orc)] }) with nt := 41, own := [], keep := fun k => (tlook [] k).getD [], cut := tlook [] }
noncomputable def cod : Code := (Go.Proofs.Tryz.f36.body).getD .skip
theorem nok : namesOk E cod = true := by kernel_rfl
theorem start (a : Int) : evalFn E Go.Proofs.Tryz.f36 cod [D.s (S.sc (Value.int IntKind.u64 a))] = gif (((64 : Int) = (32 : Int) ∨ (64 : Int) = (64 : Int)) ∧ ((0 : Int) ≤ a ∧ a < (18446744073709551616 : Int)) ∧ BFinite.finB (64 : Int) a = true) (vlet (isNeg (UExact.numF (64 : Int) a).fst) fun y0 => vlet (dg (UExact.numF (64 : Int) a).fst.natAbs) fun y1 => vlet (UExact.numF (64 : Int) a).snd fun y2 => bcase (decide ((0 : Int) ≤ y2)) (gif (Zok (y0, y1) ∧ IntKind.i64.wrap (y2 + (1 : Int)) ≤ (1099511627776 : Int)) (vlet (isNeg (zv (y0, y1) * (2 : Int) ^ (IntKind.i64.wrap (y2 + (1 : Int))).toNat)) fun y3 => vlet (dg (zv (y0, y1) * (2 : Int) ^ (IntKind.i64.wrap (y2 + (1 : Int))).toNat).natAbs) fun y4 => some [D.agg [S.sc (Value.bool y3), S.ints IntKind.u32 y4], D.agg [S.sc (Value.bool false), S.sc (Value.slice none (0 : Nat) (0 : Nat))], D.s (S.sc (Value.int IntKind.i64 (0 : Int)))])) (gif (IntKind.i64.wrap ((0 : Int) - y2) ≤ (1099511627776 : Int)) (vlet (dg ((2 : Nat) ^ (IntKind.i64.wrap ((0 : Int) - y2)).toNat)) fun y5 => gif (Dig y5 ∧ y5.length ≤ (4398046511104 : Nat)) (gif (Zok (y0, y1) ∧ (2 : Int) ≤ (1099511627776 : Int)) (vlet (isNeg (zv (y0, y1) * (4 : Int))) fun y6 => vlet (dg (zv (y0, y1) * (4 : Int)).natAbs) fun y7 => gif (Zok (y6, y7) ∧ Zok (isNeg (zs false (val y5)), dg (zs false (val y5)).natAbs)) (vlet (isNeg (zv (y6, y7) + zv (isNeg (zs false (val y5)), dg (zs false (val y5)).natAbs))) fun y8 => vlet (dg (zv (y6, y7) + zv (isNeg (zs false (val y5)), dg (zs false (val y5)).natAbs)).natAbs) fun y9 => gif (Zok (y8, y9) ∧ (-9223372036854775808 : Int) ≤ IntKind.i64.wrap ((1 : Int) - y2) ∧ IntKind.i64.wrap ((1 : Int) - y2) < (9223372036854775808 : Int)) (vlet (isNeg (zv (y8, y9) / (↑((2 : Nat) ^ (IntKind.i64.wrap ((1 : Int) - y2)).toNat) : Int))) fun y10 => vlet (dg (zv (y8, y9) / (↑((2 : Nat) ^ (IntKind.i64.wrap ((1 : Int) - y2)).toNat) : Int)).natAbs) fun y11 => gif (Zok (y0, y1) ∧ (1 : Int) ≤ (1099511627776 : Int)) (vlet (isNeg (zv (y0, y1) * (2 : Int))) fun y12 => vlet (dg (zv (y0, y1) * (2 : Int)).natAbs) fun y13 => gif (Zok (y10, y11) ∧ Zok (isNeg (zs false (val y5)), dg (zs false (val y5)).natAbs)) (vlet (isNeg (zv (y10, y11) * zv (isNeg (zs false (val y5)), dg (zs false (val y5)).natAbs))) fun y14 => vlet (dg (zv (y10, y11) * zv (isNeg (zs false (val y5)), dg (zs false (val y5)).natAbs)).natAbs) fun y15 => gif (Zok (y12, y13) ∧ Zok (y14, y15)) (vlet (isNeg (zv (y12, y13) - zv (y14, y15))) fun y16 => vlet (dg (zv (y12, y13) - zv (y14, y15)).natAbs) fun y17 => some [D.agg [S.sc (Value.bool y10), S.ints IntKind.u32 y11], D.agg [S.sc (Value.bool y16), S.ints IntKind.u32 y17], D.s (S.sc (Value.int IntKind.i64 (IntKind.i64.wrap (y2 - (1 : Int)))))])))))))))) := (evalFn_J rfl nok _).trans (by kernel_rfl)
-- stuck: 0
end Split17
namespace Split17
noncomputable def sp (a : Int) : Prop × List D := ((0 ≤ a ∧ a < 18446744073709551616) ∧ BFinite.finB 64 a = true, [zD (UReduce.redK (UExact.numF 64 a)), zD (UReduce.redR (UExact.numF 64 a)), .s (.sc (.int .i64 (if 0 ≤ (UExact.numF 64 a).2 then 0 else (UExact.numF 64 a).2 - 1)))])
theorem red_bl {p : Int × Int} (hm : bl p.1.natAbs ≤ 53) (h0 : -1074 ≤ p.2) (h1 : p.2 ≤ 1100) : bl (UReduce.redK p).natAbs ≤ 1200 ∧ bl (UReduce.redR p).natAbs ≤ 2400 := by
  have hK : bl (UReduce.redK p).natAbs ≤ 1200 := by
    unfold UReduce.redK
    split
    · exact Nat.le_trans (bl_p2 (n := p.2 + 1) (k := 1101) hm (by omega)) (by omega)
    · refine bl_div ?_ _
      have b1 := bl_p2 (z := p.1) (n := 2) (k := 2) hm (by omega)
      have b2 := bl_p2 (z := 1) (n := -p.2) (k := 1074) bl_one (by omega)
      rw [Int.one_mul] at b2
      exact Nat.le_trans (bl_sum (n := 1075) (Nat.le_trans b1 (by omega)) b2) (by omega)
  refine ⟨hK, ?_⟩
  unfold UReduce.redR
  split
  · exact Nat.le_trans (Nat.le_of_eq bl_zero) (by omega)
  · rw [Int.sub_eq_add_neg]
    have b1 := bl_p2 (z := p.1) (n := 1) (k := 1) hm (by omega)
    have b2 := bl_p2 (z := UReduce.redK p) (n := -p.2) (k := 1074) hK (by omega)
    exact Nat.le_trans (bl_sum (n := 2300) (Nat.le_trans b1 (by omega)) (Nat.le_trans (bl_neg b2) (by omega))) (by omega)
theorem spec (a : Int) (h : (sp a).1) : ∃ rs, evalFn E Tryz.f36 cod [(pN .u64).put a] = some rs ∧ RsLe rs (sp a).2 := by
  obtain ⟨hb, hfin⟩ := h
  have s := (start a).trans (gP ⟨.inr rfl, hb, hfin⟩)
  obtain ⟨hp, hz, he⟩ := UExact.numF_pin (.inr rfl) hb.1 hfin
  have hm : (UExact.numF 64 a).1.natAbs < 2 ^ 53 ∧ -1074 ≤ (UExact.numF 64 a).2 ∧ (UExact.numF 64 a).2 ≤ 1100 := by
    have ha := nrmD_abs (BValue.valZ 64 a) (BValue.valE 64 a)
    refine ⟨by unfold UExact.numF; omega, ?_⟩
    unfold UExact.numF
    by_cases hz0 : BValue.valZ 64 a = 0
    · rw [hz0, nrmD_zero]; dsimp only; omega
    · have h1 := (nrmD_val (e := BValue.valE 64 a) hz0).2
      have h2 := tz_bl (n := (BValue.valZ 64 a).natAbs) (by omega)
      have h3 : bl (BValue.valZ 64 a).natAbs ≤ 53 := bl_le.2 hz
      omega
  unfold sp
  dsimp only
  generalize UExact.numF 64 a = p at *
  obtain ⟨hm, h0, h1⟩ := hm
  have bm : bl p.1.natAbs ≤ 53 := bl_le.2 hm
  obtain ⟨bK, bR⟩ := red_bl bm h0 h1
  have hK : UReduce.redK p = if 0 ≤ p.2 then p.1 * p2 (p.2 + 1) else (p.1 * 4 + p2 (-p.2)) / p2 (1 - p.2) := rfl
  have hR : UReduce.redR p = if 0 ≤ p.2 then 0 else p.1 * 2 - UReduce.redK p * p2 (-p.2) := rfl
  generalize UReduce.redK p = K at *
  generalize UReduce.redR p = R at *
  obtain ⟨m, e⟩ := p
  dsimp only at *
  have zm : Zok (isNeg m, dg m.natAbs) := zok_bl bm (by omega)
  have pw : ∀ n : Int, (2 : Int) ^ n.toNat = p2 n := fun n => by unfold p2; rw [Int.natCast_pow]; rfl
  rw [vl_z, vl] at s
  by_cases hc : 0 ≤ e
  · rw [if_pos hc] at hK hR
    rw [bD_pos hc, wrap_i64 (n := e + 1) (by omega) (by omega), gP ⟨zm, by omega⟩, zv_zD, pw, vl_z, ← hK] at s
    refine ⟨_, s, ?_⟩
    rw [hR, if_pos hc]
    refine .cons (RLe.refl _) (.cons ?_ (RsLe.refl _))
    unfold zD
    rw [show (0 : Int).natAbs = 0 from rfl, dg_zero]
    exact RLe.agg (.cons (SLe.refl _) (.cons (SLe.nil _) (CsLe.refl _)))
  · rw [if_neg hc] at hK hR
    have be : bl (p2 (-e)).natAbs ≤ 1075 := by
      have b2 := bl_p2 (z := 1) (n := -e) (k := 1074) bl_one (by omega)
      rwa [Int.one_mul] at b2
    have b4 : bl (m * 4).natAbs ≤ 55 := bl_p2 (z := m) (n := 2) (k := 2) bm (by omega)
    have b2 : bl (m * 2).natAbs ≤ 54 := bl_p2 (z := m) (n := 1) (k := 1) bm (by omega)
    have bS : bl (m * 4 + p2 (-e)).natAbs ≤ 1076 := bl_sum (Nat.le_trans b4 (by omega)) be
    have bP : bl (K * p2 (-e)).natAbs ≤ 2274 := bl_p2 (n := -e) (k := 1074) bK (by omega)
    have l1 : (dg (2 ^ (-e).toNat)).length ≤ 34 := by
      have := len_bl (n := 2 ^ (-e).toNat) (k := 1075) (by unfold p2 at be; rwa [Int.natAbs_natCast] at be)
      omega
    have zp : zs false (2 ^ (-e).toNat) = p2 (-e) := rfl
    rw [bD_neg hc, wrap_i64 (n := 0 - e) (by omega) (by omega), show 0 - e = -e by omega, gP (by omega), vl, gP ⟨dig_dg _, by omega⟩, val_dg, zp, gP ⟨zm, by omega⟩, zv_zD, vl_z, zv_zD, gP ⟨zok_bl b4 (by omega), zok_bl be (by omega)⟩, zv_zD, vl_z, zv_zD, wrap_i64 (n := 1 - e) (by omega) (by omega), gP ⟨zok_bl bS (by omega), by omega, by omega⟩] at s
    rw [show ((2 ^ (1 - e).toNat : Nat) : Int) = p2 (1 - e) from rfl, ← hK, vl_z, gP ⟨zm, by omega⟩, vl_z, zv_zD, gP ⟨zok_bl bK (by omega), zok_bl be (by omega)⟩, vl_z, zv_zD, zv_zD, gP ⟨zok_bl b2 (by omega), zok_bl bP (by omega)⟩, ← hR, vl_z, wrap_i64 (n := e - 1) (by omega) (by omega)] at s
    refine ⟨_, s, ?_⟩
    rw [if_neg hc]
    exact RsLe.refl _

noncomputable def orc : Orc := orc1 (pN .u64) sp
theorem fnok : FnOk Tryz.prog E 36 Tryz.f36 cod := fnOk ty_ok mixed (callsOk_of _ rfl (orcs_cons Number17.ok (orcs_cons ZShl.ok (orcs_cons Pow2.ok (orcs_cons Mk.ok (orcs_cons ZAdd.ok (orcs_cons ZFloorShr.ok (orcs_cons ZSub.ok (orcs_cons ZMul.ok orcs_nil)))))))) (ext_ok)) Tryz.func36 rfl rfl rfl
theorem ok : OrcOk Tryz.prog base.glob 36 orc := fnok.wk1 rfl spec
end Split17
end Go.Proofs.YtfebndgmmekmgaaGreatDoor.W

/- gnomon/gnomonref01.To -/
namespace Go.Proofs.YtfebndgmmekmgaaGreatDoor.W
open Go Go.Proofs.YtfebndgmmekmgaaGreatDoor.AI Go.Proofs.YtfebndgmmekmgaaGreatDoor.M
namespace To
noncomputable def E : Env := { ({ base with C := callsOf [(132, Norm.orc)] }) with nt := 44, own := [], keep := fun k => (tlook [(4, [3, 4, 5])] k).getD [], cut := tlook [] }
noncomputable def cod : Code := (Go.Proofs.Tryz.f141.body).getD .skip
theorem nok : namesOk E cod = true := by kernel_rfl
noncomputable def L4 (xs0 : List Int) (m1 : Nat) (xs2 : List Int) (x3 : Int) : Option (List D) := lpO E Go.Proofs.Tryz.f141 cod 4 [(A.v (V.one (L.s (S.ints IntKind.u32 xs0))), none), (A.v (V.one (L.buf (1 : Nat) m1)), some { e := (24 : Nat), cont := Cont.ints IntKind.u64 xs2 }), (A.v (V.one (L.s (S.sc (Value.int IntKind.i64 x3)))), none)]
theorem start (a : List Int) : evalFn E Go.Proofs.Tryz.f141 cod [D.s (S.ints IntKind.u32 a)] = gif (Dig a ∧ a.length ≤ (4398046511104 : Nat)) (if (0 : Int) ≤ (0 : Int) ∧ (0 : Int) ≤ IntKind.i64.wrap (IntKind.i64.wrap ((↑(dg (val a)).length : Int).tdiv (2 : Int)) + (1 : Int)) ∧ IntKind.i64.wrap (IntKind.i64.wrap ((↑(dg (val a)).length : Int).tdiv (2 : Int)) + (1 : Int)) ≤ (8796093022208 : Int) then To.L4 (dg (val a)) (0 : Nat) (List.replicate (0 : Nat) (0 : Int)) (0 : Int) else none) := (evalFn_J rfl nok _).trans (by kernel_rfl)
theorem L4_eq (xs0 : List Int) (m1 : Nat) (xs2 : List Int) (x3 : Int) : L4 xs0 m1 xs2 x3 = bcase (decide (x3 < (↑xs0.length : Int))) (if (0 : Int) ≤ x3 ∧ x3 < (↑xs0.length : Int) then bcase (decide (IntKind.i64.wrap (x3 + (1 : Int)) < (↑xs0.length : Int))) (if (0 : Int) ≤ IntKind.i64.wrap (x3 + (1 : Int)) ∧ IntKind.i64.wrap (x3 + (1 : Int)) < (↑xs0.length : Int) then if (0 : Nat) < [IntKind.u64.wrap (IntKind.u64.wrap (xs0.getD x3.toNat (0 : Int)) + IntKind.u64.wrap (IntKind.u64.wrap (xs0.getD (IntKind.i64.wrap (x3 + (1 : Int))).toNat (0 : Int)) * (4294967296 : Int)))].length ∧ (↑(xs2.length + [IntKind.u64.wrap (IntKind.u64.wrap (xs0.getD x3.toNat (0 : Int)) + IntKind.u64.wrap (IntKind.u64.wrap (xs0.getD (IntKind.i64.wrap (x3 + (1 : Int))).toNat (0 : Int)) * (4294967296 : Int)))].length) : Int) ≤ (8796093022208 : Int) then To.L4 xs0 (xs2.length + [IntKind.u64.wrap (IntKind.u64.wrap (xs0.getD x3.toNat (0 : Int)) + IntKind.u64.wrap (IntKind.u64.wrap (xs0.getD (IntKind.i64.wrap (x3 + (1 : Int))).toNat (0 : Int)) * (4294967296 : Int)))].length) (xs2 ++ [IntKind.u64.wrap (IntKind.u64.wrap (xs0.getD x3.toNat (0 : Int)) + IntKind.u64.wrap (IntKind.u64.wrap (xs0.getD (IntKind.i64.wrap (x3 + (1 : Int))).toNat (0 : Int)) * (4294967296 : Int)))]) (IntKind.i64.wrap (x3 + (2 : Int))) else none else none) (if (0 : Nat) < [IntKind.u64.wrap (xs0.getD x3.toNat (0 : Int))].length ∧ (↑(xs2.length + [IntKind.u64.wrap (xs0.getD x3.toNat (0 : Int))].length) : Int) ≤ (8796093022208 : Int) then To.L4 xs0 (xs2.length + [IntKind.u64.wrap (xs0.getD x3.toNat (0 : Int))].length) (xs2 ++ [IntKind.u64.wrap (xs0.getD x3.toNat (0 : Int))]) (IntKind.i64.wrap (x3 + (2 : Int))) else none) else none) (some [D.own (24 : Nat) IntKind.u64 xs2]) := (loopAt_J rfl nok 4 _).trans (by kernel_rfl)
-- stuck: 0
end To
namespace To
theorem L {d : List Int} (hd : Nrm d) (hl : d.length ≤ 4398046511104) : ∀ (k i : Nat) (xs : List Int), i + k ≥ d.length → i ≤ d.length + 1 → xs.length ≤ i →
    L4 d xs.length xs i = some [D.own tU64 .u64 (xs ++ M6.dg (val (d.drop i)))] := by
  intro k
  induction k using Nat.strongRecOn with
  | _ k ih =>
    intro i xs hk hi hxl
    rw [L4_eq]
    by_cases h : i < d.length
    · have g0 := hd.dig.get i
      have g1 := hd.dig.get (i + 1)
      have e' : ((i : Int)).toNat = i := Int.toNat_natCast i
      have e1 : ((i : Int) + 1).toNat = i + 1 := by omega
      have hz : val (d.drop i) ≠ 0 := by
        intro h0
        have hn : Nrm (d.drop i) := nrm_of (hd.dig.drop i) fun e he => hd.top (by
          rw [List.getLast?_drop] at he
          rw [if_neg (by omega)] at he
          exact he)
        have := (len_zero hn).2 h0
        rw [List.length_drop] at this
        omega
      have ev := val_drop_one (a := d) i
      have ev1 : val (d.drop (i + 1)) = (d.getD (i + 1) 0).toNat + 4294967296 * val (d.drop (i + 2)) := val_drop_one (i + 1)
      have key : M6.dg (val (d.drop i)) = (d.getD i 0 + d.getD (i + 1) 0 * 4294967296) :: M6.dg (val (d.drop (i + 2))) := by
        rw [M6.dg_pos hz]
        congr 1
        · omega
        · congr 1; omega
      rw [bD_pos (by omega), if_pos (by omega), e', wrap_i64 (n := (i : Int) + 1) (by omega) (by omega), wrap_i64 (n := (i : Int) + 2) (by omega) (by omega), e1, wrap_u64 (n := d.getD i 0) (by omega) (by omega), wrap_u64 (n := d.getD (i + 1) 0) (by omega) (by omega),
        wrap_u64 (n := d.getD (i + 1) 0 * 4294967296) (by omega) (by omega), wrap_u64 (by omega) (by omega)]
      by_cases h1 : i + 1 < d.length
      · rw [bD_pos (by omega), if_pos (by omega), if_pos ⟨by simp, by simp; omega⟩]
        have := ih (k - 2) (by omega) (i + 2) (xs ++ [d.getD i 0 + d.getD (i + 1) 0 * 4294967296]) (by omega) (by omega) (by simp; omega)
        simp only [List.length_append, List.length_cons, List.length_nil] at this ⊢
        rw [show ((i : Int) + 2) = ((i + 2 : Nat) : Int) from by omega, this, key, List.append_assoc]
        rfl
      · have hd1 : d.getD (i + 1) 0 = 0 := getD_none (by omega)
        rw [bD_neg (by omega), if_pos ⟨by simp, by simp; omega⟩]
        have := ih (k - 1) (by omega) (i + 2) (xs ++ [d.getD i 0]) (by omega) (by omega) (by simp; omega)
        simp only [List.length_append, List.length_cons, List.length_nil] at this ⊢
        rw [show ((i : Int) + 2) = ((i + 2 : Nat) : Int) from by omega, this, key, hd1, Int.zero_mul, Int.add_zero, List.append_assoc]
        rfl
    · rw [bD_neg (by omega), List.drop_eq_nil_of_le (by omega)]
      simp [val, M6.dg_zero]

noncomputable def sp (a : List Int) : Prop × List D := (Dig a ∧ a.length ≤ 1099511627776, [.own tU64 .u64 (M6.dg (val a))])
theorem spec (a : List Int) (h : (sp a).1) : evalFn E Tryz.f141 cod [(pI .u32).put a] = some (sp a).2 := by
  obtain ⟨ha, h1⟩ := h
  refine (start a).trans ?_
  have := len_val ha
  rw [gP ⟨ha, by omega⟩, Int.tdiv_eq_ediv_of_nonneg (by omega), wrap_i64 (n := ((dg (val a)).length : Int) / 2) (by omega) (by omega), wrap_i64 (by omega) (by omega), if_pos ⟨by omega, by omega, by omega⟩]
  have := L (nrm_dg (val a)) (by omega) (dg (val a)).length 0 [] (by omega) (by omega) (by simp)
  simp only [List.length_nil, List.drop_zero, List.nil_append, val_dg] at this
  exact this

noncomputable def orc : Orc := orc1 (pI .u32) sp
theorem fnok : FnOk Tryz.prog E 141 Tryz.f141 cod := fnOk ty_ok mixed (callsOk_of _ rfl (orcs_cons Norm.ok orcs_nil) (ext_ok)) Tryz.func141 rfl rfl rfl
theorem ok : OrcOk Tryz.prog base.glob 141 orc := fnok.ok1 rfl spec
end To
end Go.Proofs.YtfebndgmmekmgaaGreatDoor.W

/- gnomon/gnomonref04.To -/
namespace Go.Proofs.YtfebndgmmekmgaaGreatDoor.W
open Go Go.Proofs.YtfebndgmmekmgaaGreatDoor.AI Go.Proofs.YtfebndgmmekmgaaGreatDoor.M
namespace ZTo
noncomputable def E : Env := { ({ base with C := callsOf [(141, To.orc)] }) with nt := 15, own := [], keep := fun k => (tlook [] k).getD [], cut := tlook [] }
noncomputable def cod : Code := (Go.Proofs.Tryz.f87.body).getD .skip
theorem nok : namesOk E cod = true := by kernel_rfl
theorem start (a1 : Bool) (a2 : List Int) : evalFn E Go.Proofs.Tryz.f87 cod [D.agg [S.sc (Value.bool a1), S.ints IntKind.u32 a2]] = bcase a1 (gif (Dig a2 ∧ a2.length ≤ (1099511627776 : Nat)) (some [D.agg [S.sc (Value.bool (decide ((0 : Int) < (↑a2.length : Int)))), S.ints IntKind.u64 (M6.dg (val a2))]])) (gif (Dig a2 ∧ a2.length ≤ (1099511627776 : Nat)) (some [D.agg [S.sc (Value.bool false), S.ints IntKind.u64 (M6.dg (val a2))]])) := (evalFn_J rfl nok _).trans (by kernel_rfl)
-- stuck: 0
end ZTo
namespace ZTo
noncomputable def sp (x : Bool × List Int) : Prop × List D := (Zok x, [wD (zv x)])
theorem spec (x : Bool × List Int) (h : (sp x).1) : evalFn E Tryz.f87 cod [(pG (.pair sB (sI .u32))).put x] = some (sp x).2 := by
  have h : Zok x := h
  have l := h.len
  have hz := len_zero h.1
  refine (start x.1 x.2).trans ?_
  obtain ⟨b, a⟩ := x
  dsimp only at *
  show _ = some [wD (zs b (val a))]
  rw [wD_zs]
  cases b with
  | false => rw [bF, gP ⟨h.1.dig, by omega⟩]; rfl
  | true =>
    rw [bT, gP ⟨h.1.dig, by omega⟩, Bool.true_and]
    have : decide (0 < (a.length : Int)) = decide (val a ≠ 0) := by
      by_cases h : val a = 0
      · rw [decide_eq_false (by omega), decide_eq_false (by omega)]
      · rw [decide_eq_true (by omega), decide_eq_true h]
    rw [this]

noncomputable def orc : Orc := orc1 (pG (.pair sB (sI .u32))) sp
theorem fnok : FnOk Tryz.prog E 87 Tryz.f87 cod := fnOk ty_ok mixed (callsOk_of _ rfl (orcs_cons To.ok orcs_nil) (ext_ok)) Tryz.func87 rfl rfl rfl
theorem ok : OrcOk Tryz.prog base.glob 87 orc := fnok.ok1 rfl spec
end ZTo
end Go.Proofs.YtfebndgmmekmgaaGreatDoor.W

/- gnomon/gnomonref05.Told -/
namespace Go.Proofs.YtfebndgmmekmgaaGreatDoor.W
open Go Go.Proofs.YtfebndgmmekmgaaGreatDoor.AI Go.Proofs.YtfebndgmmekmgaaGreatDoor.M
namespace Told5
noncomputable def E : Env := { ({ base with C := callsOf [(85, Zeros.orc), (86, Shr.orc), (79, Mk.orc), (87, ZTo.orc)] }) with nt := 52, own := [], keep := fun k => (tlook [] k).getD [], cut := tlook [(5, [1, 2, 4]), (9, [1, 2, 4, 6, 7])] }
noncomputable def cod : Code := (Go.Proofs.Tryz.f37.body).getD .skip
theorem nok : namesOk E cod = true := by kernel_rfl
noncomputable def J5 (x0 : Int) (b1 : Bool) (xs2 : List Int) (b3 : Bool) (x4 : Int) : Option (List D) := ctO E Go.Proofs.Tryz.f37 cod 5 [(A.v (V.one (L.s (S.sc (Value.int IntKind.i64 x0)))), none), (A.v (V.one (L.ptr (1 : Nat) (0 : Nat))), some { e := (76 : Nat), cont := Cont.cells [S.sc (Value.bool b1), S.ints IntKind.u32 xs2] }), (A.v (V.one (L.ptr (2 : Nat) (0 : Nat))), some { e := (28 : Nat), cont := Cont.cells [S.sc (Value.bool b3), S.sc (Value.slice none (0 : Nat) (0 : Nat)), S.sc (Value.int IntKind.i64 x4)] })]
noncomputable def J9 (x0 : Int) (b1 : Bool) (xs2 : List Int) (b3 : Bool) (x4 : Int) (x5 : Int) (xs6 : List Int) : Option (List D) := ctO E Go.Proofs.Tryz.f37 cod 9 [(A.v (V.one (L.s (S.sc (Value.int IntKind.i64 x0)))), none), (A.v (V.one (L.ptr (1 : Nat) (0 : Nat))), some { e := (76 : Nat), cont := Cont.cells [S.sc (Value.bool b1), S.ints IntKind.u32 xs2] }), (A.v (V.one (L.ptr (2 : Nat) (0 : Nat))), some { e := (28 : Nat), cont := Cont.cells [S.sc (Value.bool b3), S.sc (Value.slice none (0 : Nat) (0 : Nat)), S.sc (Value.int IntKind.i64 x4)] }), (A.v (V.one (L.s (S.sc (Value.int IntKind.i64 x5)))), none), (A.v (V.one (L.s (S.ints IntKind.u32 xs6))), none)]
theorem start (a1 : Bool) (a2 : List Int) (b : Int) : evalFn E Go.Proofs.Tryz.f37 cod [D.agg [S.sc (Value.bool a1), S.ints IntKind.u32 a2], D.s (S.sc (Value.int IntKind.i64 b))] = bcase ((↑a2.length : Int) == (0 : Int)) (some [D.agg [S.sc (Value.bool false), S.sc (Value.slice none (0 : Nat) (0 : Nat)), S.sc (Value.int IntKind.i64 (0 : Int))], D.s (S.sc (Value.int IntKind.i64 (0 : Int)))]) (bcase (decide ((1048576 : Int) < b)) (some [D.agg [S.sc (Value.bool false), S.sc (Value.slice none (0 : Nat) (0 : Nat)), S.sc (Value.int IntKind.i64 (0 : Int))], D.s (S.sc (Value.int IntKind.i64 (5 : Int)))]) (bcase (decide (b < (-1099511627776 : Int))) (some [D.agg [S.sc (Value.bool false), S.sc (Value.slice none (0 : Nat) (0 : Nat)), S.sc (Value.int IntKind.i64 (0 : Int))], D.s (S.sc (Value.int IntKind.i64 (5 : Int)))]) (Told5.J5 b a1 a2 false (0 : Int)))) := (evalFn_J rfl nok _).trans (by kernel_rfl)
theorem J5_eq (x0 : Int) (b1 : Bool) (xs2 : List Int) (b3 : Bool) (x4 : Int) : J5 x0 b1 xs2 b3 x4 = gif (Nrm xs2 ∧ xs2.length ≤ (1099511627776 : Nat)) (vlet (if val xs2 = (0 : Nat) then (0 : Int) else (↑(tz (val xs2)) : Int)) fun y0 => gif (Dig xs2 ∧ xs2.length ≤ (1099511627776 : Nat) ∧ y0 < (9223372036854775808 : Int)) (vlet (dg (val xs2 / (2 : Nat) ^ y0.toNat)) fun y1 => bcase (decide ((16384 : Int) < (↑y1.length : Int))) (some [D.agg [S.sc (Value.bool false), S.sc (Value.slice none (0 : Nat) (0 : Nat)), S.sc (Value.int IntKind.i64 (0 : Int))], D.s (S.sc (Value.int IntKind.i64 (5 : Int)))]) (bcase (decide (IntKind.i64.wrap (x0 + y0) < (-1048576 : Int))) (some [D.agg [S.sc (Value.bool false), S.sc (Value.slice none (0 : Nat) (0 : Nat)), S.sc (Value.int IntKind.i64 (0 : Int))], D.s (S.sc (Value.int IntKind.i64 (5 : Int)))]) (bcase (decide ((1048576 : Int) < IntKind.i64.wrap (x0 + y0))) (some [D.agg [S.sc (Value.bool false), S.sc (Value.slice none (0 : Nat) (0 : Nat)), S.sc (Value.int IntKind.i64 (0 : Int))], D.s (S.sc (Value.int IntKind.i64 (5 : Int)))]) (Told5.J9 x0 b1 xs2 b3 x4 y0 y1))))) := (cutAt_J rfl nok 5 _).trans (by kernel_rfl)
theorem J9_eq (x0 : Int) (b1 : Bool) (xs2 : List Int) (b3 : Bool) (x4 : Int) (x5 : Int) (xs6 : List Int) : J9 x0 b1 xs2 b3 x4 x5 xs6 = gif (Dig xs6 ∧ xs6.length ≤ (4398046511104 : Nat)) (gif (Zok (isNeg (zs b1 (val xs6)), dg (zs b1 (val xs6)).natAbs)) (vlet (isNeg (zv (isNeg (zs b1 (val xs6)), dg (zs b1 (val xs6)).natAbs))) fun y2 => vlet (M6.dg (zv (isNeg (zs b1 (val xs6)), dg (zs b1 (val xs6)).natAbs)).natAbs) fun y3 => some [D.agg [S.sc (Value.bool y2), S.ints IntKind.u64 y3, S.sc (Value.int IntKind.i64 (IntKind.i64.wrap (x0 + x5)))], D.s (S.sc (Value.int IntKind.i64 (0 : Int)))])) := (cutAt_J rfl nok 9 _).trans (by kernel_rfl)
-- stuck: 0
end Told5
namespace Told5
/-- m * 2^e in form, where it fits. -/
def toldOk (z e : Int) : Bool := inD z e && fit (nrmD z e).1.natAbs
noncomputable def sp (x : Bool × List Int) (e : Int) : Prop × List D := (Zok x ∧ x.2.length ≤ 268435456 ∧ -4611686018427387904 ≤ e ∧ e < 4611686018427387904, dE (toldOk (zv x) e) (nrmD (zv x) e))
theorem nil_dE (p : Int × Int) (ok : Bool) (n : Int) (h1 : ok = true → p = (0, 0)) (h2 : n = bif ok then 0 else 5) : RsLe [D.agg [.sc (.bool false), .sc (.slice none 0 0), .sc (.int .i64 0)], .s (.sc (.int .i64 n))] (dE ok p) := by
  subst h2
  have : (bif ok then p else ((0 : Int), (0 : Int))) = (0, 0) := by
    cases ok with
    | true => exact h1 rfl
    | false => rfl
  unfold dE
  rw [this]
  refine .cons ?_ (RsLe.refl _)
  unfold dD
  rw [show ((0, 0) : Int × Int).1.natAbs = 0 from rfl, M6.dg_zero]
  exact RLe.agg (.cons (SLe.refl _) (.cons (SLe.nil _) (CsLe.refl _)))
theorem len_le_bl {n k : Nat} (h : bl n ≤ 32 * k) : (dg n).length ≤ k := len_dg_le (by rw [pow32]; exact bl_le.1 h)
theorem fit_len {n : Nat} : fit n = decide ((dg n).length ≤ 16384) := by
  unfold fit
  by_cases h : bl n ≤ 524288
  · rw [decide_eq_true h, decide_eq_true (len_le_bl (k := 16384) (by omega))]
  · rw [decide_eq_false h, decide_eq_false (fun hl => h ?_)]
    have := bl_len (dig_dg n) hl
    rw [val_dg] at this
    omega
theorem spec (x : Bool × List Int) (e : Int) (h : (sp x e).1) : ∃ rs, evalFn E Tryz.f37 cod [(pG (.pair sB (sI .u32))).put x, (pN .i64).put e] = some rs ∧ RsLe rs (sp x e).2 := by
  obtain ⟨hx, lx, he0, he1⟩ := h
  have s := start x.1 x.2 e
  have hz := len_zero hx.1
  have bx := bl_len hx.1.dig lx
  have hn := hx.1
  obtain ⟨b, a⟩ := x
  dsimp only at *
  unfold sp
  dsimp only
  have ha : (zv (b, a)).natAbs = val a := zv_abs (b, a)
  by_cases h0 : a.length = 0
  · have hv : zv (b, a) = 0 := by have := hz.1 h0; omega
    rw [bE_pos (by omega)] at s
    exact ⟨_, s, nil_dE _ _ _ (fun _ => by rw [hv, nrmD_zero]) (by unfold toldOk; rw [hv, nrmD_zero]; rfl)⟩
  · have hv : val a ≠ 0 := fun h => h0 (hz.2 h)
    have hw : zv (b, a) ≠ 0 := by omega
    have ht := tz_bl hv
    obtain ⟨n1, n2⟩ := nrmD_val (e := e) hw
    rw [ha] at n2
    have hin : inD (zv (b, a)) e = (decide (-1048576 ≤ e + ((tz (val a) : Nat) : Int)) && decide (e + ((tz (val a) : Nat) : Int) ≤ 1048576)) := by
      unfold inD
      rw [decide_eq_false hw, Bool.false_or, ha]
    have hnf : nrmD (zv (b, a)) e = (zs b (val a / 2 ^ tz (val a)), e + ((tz (val a) : Nat) : Int)) := by
      unfold nrmD
      rw [if_neg hw, ha]
      have := zs_div (b := b) (Nat.pow_pos (n := tz (val a)) (show 0 < 2 by decide)) (tz_spec _ hv).1
      rw [← this]
      rfl
    have hfit : fit (nrmD (zv (b, a)) e).1.natAbs = decide ((dg (val a / 2 ^ tz (val a))).length ≤ 16384) := by
      rw [hnf, ← fit_len]
      dsimp only
      rw [zs_abs]
    have no : inD (zv (b, a)) e = false → toldOk (zv (b, a)) e = false := fun h => by unfold toldOk; rw [h]; rfl
    rw [bE_neg (by omega)] at s
    by_cases c1 : 1048576 < e
    · rw [bD_pos c1] at s
      exact ⟨_, s, nil_dE _ _ _ (fun h => by rw [no (by rw [hin, decide_eq_false (show ¬ e + ((tz (val a) : Nat) : Int) ≤ 1048576 by omega), Bool.and_false])] at h; cases h) (by rw [no (by rw [hin, decide_eq_false (show ¬ e + ((tz (val a) : Nat) : Int) ≤ 1048576 by omega), Bool.and_false])]; rfl)⟩
    · rw [bD_neg c1] at s
      by_cases c2 : e < -1099511627776
      · rw [bD_pos c2] at s
        have hf : toldOk (zv (b, a)) e = false := no (by rw [hin, decide_eq_false (show ¬ -1048576 ≤ e + ((tz (val a) : Nat) : Int) by omega), Bool.false_and])
        exact ⟨_, s, nil_dE _ _ _ (fun h => by rw [hf] at h; cases h) (by rw [hf]; rfl)⟩
      · have hdl := len_dg_div (val a) (2 ^ tz (val a))
        rw [show (dg (val a)).length = a.length from nrm_len hn] at hdl
        rw [bD_neg c2, J5_eq, gP ⟨hn, by omega⟩, if_neg hv, vl, gP ⟨hn.dig, by omega, by omega⟩, Int.toNat_natCast, vl, wrap_i64 (n := e + ((tz (val a) : Nat) : Int)) (by omega) (by omega)] at s
        by_cases c3 : (16384 : Int) < ((dg (val a / 2 ^ tz (val a))).length : Int)
        · rw [bD_pos c3] at s
          have hf : toldOk (zv (b, a)) e = false := by unfold toldOk; rw [hfit, decide_eq_false (by omega), Bool.and_false]
          exact ⟨_, s, nil_dE _ _ _ (fun h => by rw [hf] at h; cases h) (by rw [hf]; rfl)⟩
        · rw [bD_neg c3] at s
          by_cases c4 : e + ((tz (val a) : Nat) : Int) < -1048576
          · rw [bD_pos c4] at s
            have hf : toldOk (zv (b, a)) e = false := no (by rw [hin, decide_eq_false (show ¬ -1048576 ≤ e + ((tz (val a) : Nat) : Int) by omega), Bool.false_and])
            exact ⟨_, s, nil_dE _ _ _ (fun h => by rw [hf] at h; cases h) (by rw [hf]; rfl)⟩
          · rw [bD_neg c4] at s
            by_cases c5 : 1048576 < e + ((tz (val a) : Nat) : Int)
            · rw [bD_pos c5] at s
              have hf : toldOk (zv (b, a)) e = false := no (by rw [hin, decide_eq_false (show ¬ e + ((tz (val a) : Nat) : Int) ≤ 1048576 by omega), Bool.and_false])
              exact ⟨_, s, nil_dE _ _ _ (fun h => by rw [hf] at h; cases h) (by rw [hf]; rfl)⟩
            · have hz1 : Zok (isNeg (zs b (val a / 2 ^ tz (val a))), dg (zs b (val a / 2 ^ tz (val a))).natAbs) := zok_zD (by rw [zs_abs]; omega)
              rw [bD_neg c5, J9_eq, gP ⟨dig_dg _, by omega⟩, val_dg, gP hz1, zv_zD, vl, vl, wrap_i64 (n := e + ((tz (val a) : Nat) : Int)) (by omega) (by omega)] at s
              refine ⟨_, s, ?_⟩
              have ht : toldOk (zv (b, a)) e = true := by
                unfold toldOk
                rw [hin, hfit, decide_eq_true (show -1048576 ≤ e + ((tz (val a) : Nat) : Int) by omega), decide_eq_true (show e + ((tz (val a) : Nat) : Int) ≤ 1048576 by omega), decide_eq_true (by omega)]
                rfl
              rw [ht, hnf]
              exact RsLe.refl _

noncomputable def orc : Orc := orc2 (pG (.pair sB (sI .u32))) (pN .i64) sp
theorem fnok : FnOk Tryz.prog E 37 Tryz.f37 cod := fnOk ty_ok mixed (callsOk_of _ rfl (orcs_cons Zeros.ok (orcs_cons Shr.ok (orcs_cons Mk.ok (orcs_cons ZTo.ok orcs_nil)))) (ext_ok)) Tryz.func37 rfl rfl rfl
theorem ok : OrcOk Tryz.prog base.glob 37 orc := fnok.wk2 rfl spec
end Told5
end Go.Proofs.YtfebndgmmekmgaaGreatDoor.W

/- gnomon/gnomonref04.Sign -/
namespace Go.Proofs.YtfebndgmmekmgaaGreatDoor.W
open Go Go.Proofs.YtfebndgmmekmgaaGreatDoor.AI Go.Proofs.YtfebndgmmekmgaaGreatDoor.M
namespace ZSign
noncomputable def E : Env := { (base) with nt := 11, own := [], keep := fun k => (tlook [] k).getD [], cut := tlook [] }
noncomputable def cod : Code := (Go.Proofs.Tryz.f195.body).getD .skip
theorem nok : namesOk E cod = true := by kernel_rfl
theorem start (a1 : Bool) (a2 : List Int) : evalFn E Go.Proofs.Tryz.f195 cod [D.agg [S.sc (Value.bool a1), S.ints IntKind.u32 a2]] = bcase ((↑a2.length : Int) == (0 : Int)) (some [D.s (S.sc (Value.int IntKind.i64 (0 : Int)))]) (bcase a1 (some [D.s (S.sc (Value.int IntKind.i64 (-1 : Int)))]) (some [D.s (S.sc (Value.int IntKind.i64 (1 : Int)))])) := (evalFn_J rfl nok _).trans (by kernel_rfl)
-- stuck: 0
end ZSign
namespace ZSign
noncomputable def sp (x : Bool × List Int) : Prop × List D := (Zok x, [.s (.sc (.int .i64 (cmpZ (zv x) 0)))])
theorem spec (x : Bool × List Int) (h : (sp x).1) : evalFn E Tryz.f195 cod [(pG (.pair sB (sI .u32))).put x] = some (sp x).2 := by
  refine (start x.1 x.2).trans ?_
  obtain ⟨h1, h2, h3⟩ := h
  unfold sp
  simp only
  by_cases hz : x.2.length = 0
  · have := (len_zero h1).1 hz
    rw [bE_pos (by omega)]
    cases hx : x.1 with
    | true => exact (h2 hx this).elim
    | false => rw [zv_pos hx, this]; rfl
  · have hv : val x.2 ≠ 0 := fun h => hz ((len_zero h1).2 h)
    rw [bE_neg (by omega)]
    cases hx : x.1 with
    | true => rw [bT, zv_neg hx]; unfold cmpZ; rw [if_pos (by omega)]
    | false => rw [bF, zv_pos hx]; unfold cmpZ; rw [if_neg (by omega), if_pos (by omega)]

noncomputable def orc : Orc := orc1 (pG (.pair sB (sI .u32))) sp
theorem fnok : FnOk Tryz.prog E 195 Tryz.f195 cod := fnOk ty_ok mixed (callsOk_of _ rfl orcs_nil (ext_ok)) Tryz.func195 rfl rfl rfl
theorem ok : OrcOk Tryz.prog base.glob 195 orc := fnok.ok1 rfl spec
end ZSign
end Go.Proofs.YtfebndgmmekmgaaGreatDoor.W

/- gnomon/gnomonref01.DivMod -/
namespace Go.Proofs.YtfebndgmmekmgaaGreatDoor.W
open Go Go.Proofs.YtfebndgmmekmgaaGreatDoor.AI Go.Proofs.YtfebndgmmekmgaaGreatDoor.M
namespace DivMod
noncomputable def E : Env := { ({ base with C := callsOf [(130, Word.orc), (135, Cmp.orc), (132, Norm.orc), (140, DivSmall.orc)] }) with nt := 98, own := [17, 18, 23, 25, 34, 40, 53, 91, 97], keep := fun k => (tlook [(16, [8, 9, 10, 11, 12, 13]), (11, [0, 8, 9, 10])] k).getD [], cut := tlook [] }
noncomputable def cod : Code := (Go.Proofs.Tryz.f196.body).getD .skip
theorem nok : namesOk E cod = true := by kernel_rfl
theorem start (a : List Int) (b : List Int) : evalFn E Go.Proofs.Tryz.f196 cod [D.s (S.ints IntKind.u32 a), D.s (S.ints IntKind.u32 b)] = bcase ((↑b.length : Int) == (0 : Int)) (gif ((0 : Int) ≤ (0 : Int) ∧ (0 : Int) < (18446744073709551616 : Int)) (gif ((0 : Int) ≤ (0 : Int) ∧ (0 : Int) < (18446744073709551616 : Int)) (some [D.own (180 : Nat) IntKind.u32 (dg (0 : Nat)), D.own (180 : Nat) IntKind.u32 (dg (0 : Nat))]))) (gif (Nrm a ∧ Nrm b ∧ a.length ≤ (4398046511104 : Nat) ∧ b.length ≤ (4398046511104 : Nat)) (bcase (decide (cmpN (val a) (val b) < (0 : Int))) (gif ((0 : Int) ≤ (0 : Int) ∧ (0 : Int) < (18446744073709551616 : Int)) (gif (Dig a ∧ a.length ≤ (4398046511104 : Nat)) (some [D.own (180 : Nat) IntKind.u32 (dg (0 : Nat)), D.own (180 : Nat) IntKind.u32 (dg (val a))]))) (bcase ((↑b.length : Int) == (1 : Int)) (if (0 : Int) ≤ (0 : Int) ∧ (0 : Int) < (↑b.length : Int) then gif (Dig a ∧ a.length ≤ (1099511627776 : Nat) ∧ (0 : Int) < b.getD (0 : Nat) (0 : Int) ∧ b.getD (0 : Nat) (0 : Int) < (4294967296 : Int)) (gif ((0 : Int) ≤ IntKind.u64.wrap (↑(val a % (b.getD (0 : Nat) (0 : Int)).toNat) : Int) ∧ IntKind.u64.wrap (↑(val a % (b.getD (0 : Nat) (0 : Int)).toNat) : Int) < (18446744073709551616 : Int)) (some [D.own (180 : Nat) IntKind.u32 (dg (val a / (b.getD (0 : Nat) (0 : Int)).toNat)), D.own (180 : Nat) IntKind.u32 (dg (IntKind.u64.wrap (↑(val a % (b.getD (0 : Nat) (0 : Int)).toNat) : Int)).toNat)])) else none) (if (0 : Int) ≤ IntKind.i64.wrap ((↑b.length : Int) - (1 : Int)) ∧ IntKind.i64.wrap ((↑b.length : Int) - (1 : Int)) ≤ (↑b.length : Int) ∧ (↑b.length : Int) ≤ (↑b.length : Int) then none else none)))) := (evalFn_J rfl nok _).trans (by kernel_rfl)
-- stuck: 0
end DivMod
namespace DivMod
noncomputable def sp (a b : List Int) : Prop × List D := (Nrm a ∧ Nrm b ∧ a.length ≤ 1099511627776 ∧ b.length = 1, [.own tU32 .u32 (dg (val a / val b)), .own tU32 .u32 (dg (val a % val b))])
theorem spec (a b : List Int) (h : (sp a b).1) : evalFn E Tryz.f196 cod [(pI .u32).put a, (pI .u32).put b] = some (sp a b).2 := by
  obtain ⟨ha, hb, hl, hb1⟩ := h
  refine (start a b).trans ?_
  have hv : val b = (b.getD 0 0).toNat := by
    have := val_take_one (a := b) 0
    rw [val_take_ge (by omega)] at this
    simpa [val] using this
  have g := hb.dig.get 0
  have hz : val b ≠ 0 := fun h => by have := (len_zero hb).2 h; omega
  show _ = some [D.own tU32 .u32 (dg (val a / val b)), D.own tU32 .u32 (dg (val a % val b))]
  rw [bE_neg (by omega), gP ⟨ha, hb, by omega, by omega⟩]
  by_cases hc : val a < val b
  · have : cmpN (val a) (val b) < 0 := by unfold cmpN; rw [if_pos hc]; omega
    rw [bD_pos this, gP (by omega), gP ⟨ha.dig, by omega⟩, Nat.div_eq_of_lt hc, Nat.mod_eq_of_lt hc]
  · have : ¬ cmpN (val a) (val b) < 0 := by unfold cmpN; rw [if_neg hc]; split <;> omega
    have hm := Nat.mod_lt (val a) (show 0 < val b by omega)
    rw [hv] at hm
    rw [bD_neg this, bE_pos (by omega), if_pos (by omega), gP ⟨ha.dig, hl, by omega, g.2⟩, hv]
    generalize val a % (b.getD 0 0).toNat = r at *
    rw [wrap_u64 (n := (r : Int)) (by omega) (by omega), gP (by omega), Int.toNat_natCast]

noncomputable def orc : Orc := orc2 (pI .u32) (pI .u32) sp
theorem fnok : FnOk Tryz.prog E 196 Tryz.f196 cod := fnOk ty_ok mixed (callsOk_of _ rfl (orcs_cons Word.ok (orcs_cons Cmp.ok (orcs_cons Norm.ok (orcs_cons DivSmall.ok orcs_nil)))) (ext_ok)) Tryz.func196 rfl rfl rfl
theorem ok : OrcOk Tryz.prog base.glob 196 orc := fnok.ok2 rfl spec
end DivMod
end Go.Proofs.YtfebndgmmekmgaaGreatDoor.W

/- gnomon/gnomonref04.Floor -/
namespace Go.Proofs.YtfebndgmmekmgaaGreatDoor.W
open Go Go.Proofs.YtfebndgmmekmgaaGreatDoor.AI Go.Proofs.YtfebndgmmekmgaaGreatDoor.M
namespace ZFloor
noncomputable def E : Env := { ({ base with C := callsOf [(195, ZSign.orc), (196, DivMod.orc), (79, Mk.orc), (134, Add.orc), (130, Word.orc), (136, Sub.orc)] }) with nt := 44, own := [], keep := fun k => (tlook [] k).getD [], cut := tlook [(6, [3, 4, 5, 6, 7])] }
noncomputable def cod : Code := (Go.Proofs.Tryz.f175.body).getD .skip
theorem nok : namesOk E cod = true := by kernel_rfl
noncomputable def J6 (b0 : Bool) (xs1 : List Int) (b2 : Bool) (b3 : Bool) (xs4 : List Int) (xs5 : List Int) : Option (List D) := ctO E Go.Proofs.Tryz.f175 cod 6 [(A.v (V.one (L.ptr (0 : Nat) (0 : Nat))), some { e := (76 : Nat), cont := Cont.cells [S.sc (Value.bool b0), S.ints IntKind.u32 xs1] }), (A.v (V.one (L.ptr (1 : Nat) (0 : Nat))), some { e := (76 : Nat), cont := Cont.cells [S.sc (Value.bool b2), S.sc (Value.slice none (0 : Nat) (0 : Nat))] }), (A.v (V.one (L.ptr (2 : Nat) (0 : Nat))), some { e := (76 : Nat), cont := Cont.cells [S.sc (Value.bool b3), S.sc (Value.slice none (0 : Nat) (0 : Nat))] }), (A.v (V.one (L.s (S.ints IntKind.u32 xs4))), none), (A.v (V.one (L.s (S.ints IntKind.u32 xs5))), none)]
theorem start (a1 : Bool) (a2 : List Int) (b1 : Bool) (b2 : List Int) : evalFn E Go.Proofs.Tryz.f175 cod [D.agg [S.sc (Value.bool a1), S.ints IntKind.u32 a2], D.agg [S.sc (Value.bool b1), S.ints IntKind.u32 b2]] = gif (Zok (b1, b2)) (bcase (decide (cmpZ (zv (b1, b2)) (0 : Int) ≤ (0 : Int))) (some [D.agg [S.sc (Value.bool false), S.sc (Value.slice none (0 : Nat) (0 : Nat))], D.agg [S.sc (Value.bool false), S.sc (Value.slice none (0 : Nat) (0 : Nat))]]) (gif (Nrm a2 ∧ Nrm b2 ∧ a2.length ≤ (1099511627776 : Nat) ∧ b2.length = (1 : Nat)) (bcase (!a1) (gif (Dig (dg (val a2 / val b2)) ∧ (dg (val a2 / val b2)).length ≤ (4398046511104 : Nat)) (gif (Dig (dg (val a2 % val b2)) ∧ (dg (val a2 % val b2)).length ≤ (4398046511104 : Nat)) (some [D.agg [S.sc (Value.bool (isNeg (zs a1 (val (dg (val a2 / val b2)))))), S.ints IntKind.u32 (dg (zs a1 (val (dg (val a2 / val b2)))).natAbs)], D.agg [S.sc (Value.bool (isNeg (zs false (val (dg (val a2 % val b2)))))), S.ints IntKind.u32 (dg (zs false (val (dg (val a2 % val b2)))).natAbs)]]))) (bcase ((↑(dg (val a2 % val b2)).length : Int) == (0 : Int)) (gif (Dig (dg (val a2 / val b2)) ∧ (dg (val a2 / val b2)).length ≤ (4398046511104 : Nat)) (gif (Dig (dg (val a2 % val b2)) ∧ (dg (val a2 % val b2)).length ≤ (4398046511104 : Nat)) (some [D.agg [S.sc (Value.bool (isNeg (zs a1 (val (dg (val a2 / val b2)))))), S.ints IntKind.u32 (dg (zs a1 (val (dg (val a2 / val b2)))).natAbs)], D.agg [S.sc (Value.bool (isNeg (zs false (val (dg (val a2 % val b2)))))), S.ints IntKind.u32 (dg (zs false (val (dg (val a2 % val b2)))).natAbs)]]))) (ZFloor.J6 b1 b2 false false (dg (val a2 / val b2)) (dg (val a2 % val b2))))))) := (evalFn_J rfl nok _).trans (by kernel_rfl)
theorem J6_eq (b0 : Bool) (xs1 : List Int) (b2 : Bool) (b3 : Bool) (xs4 : List Int) (xs5 : List Int) : J6 b0 xs1 b2 b3 xs4 xs5 = gif ((0 : Int) ≤ (1 : Int) ∧ (1 : Int) < (18446744073709551616 : Int)) (gif (Dig xs4 ∧ Dig (dg (1 : Nat)) ∧ xs4.length ≤ (1099511627776 : Nat) ∧ (dg (1 : Nat)).length ≤ (1099511627776 : Nat)) (gif (Dig (dg (val xs4 + val (dg (1 : Nat)))) ∧ (dg (val xs4 + val (dg (1 : Nat)))).length ≤ (4398046511104 : Nat)) (gif (Nrm xs1 ∧ Nrm xs5 ∧ xs1.length ≤ (4398046511104 : Nat) ∧ xs5.length ≤ (4398046511104 : Nat)) (gif (Dig (dg (val xs1 - val xs5)) ∧ (dg (val xs1 - val xs5)).length ≤ (4398046511104 : Nat)) (some [D.agg [S.sc (Value.bool (isNeg (zs true (val (dg (val xs4 + val (dg (1 : Nat)))))))), S.ints IntKind.u32 (dg (zs true (val (dg (val xs4 + val (dg (1 : Nat)))))).natAbs)], D.agg [S.sc (Value.bool (isNeg (zs false (val (dg (val xs1 - val xs5)))))), S.ints IntKind.u32 (dg (zs false (val (dg (val xs1 - val xs5)))).natAbs)]]))))) := (cutAt_J rfl nok 6 _).trans (by kernel_rfl)
-- stuck: 0
end ZFloor
namespace ZFloor
noncomputable def sp (x y : Bool × List Int) : Prop × List D := (Zok x ∧ Zok y ∧ y.1 = false ∧ y.2.length = 1, [zD (zv x / zv y), zD (zv x % zv y)])
theorem neg_mod (v q : Nat) (hq : 0 < q) : (-(v : Int)) % (q : Int) = if v % q = 0 then 0 else ((q - v % q : Nat) : Int) := by
  have h := ZFloorShr.neg_div v q hq
  have hd := Nat.div_add_mod v q
  have hm := Nat.mod_lt v hq
  have he := Int.mul_ediv_add_emod (-(v : Int)) (q : Int)
  rw [h] at he
  by_cases hr : v % q = 0
  · rw [if_pos hr] at *
    rw [Int.mul_neg, ← Int.natCast_mul] at he
    generalize q * (v / q) = t at *
    omega
  · rw [if_neg hr] at *
    rw [Int.mul_sub, Int.mul_neg, ← Int.natCast_mul, Int.mul_one] at he
    generalize q * (v / q) = t at *
    generalize v % q = r at *
    omega
theorem spec (x y : Bool × List Int) (h : (sp x y).1) : evalFn E Tryz.f175 cod [(pG (.pair sB (sI .u32))).put x, (pG (.pair sB (sI .u32))).put y] = some (sp x y).2 := by
  obtain ⟨hx, hy, hn, hl⟩ := h
  refine (start x.1 x.2 y.1 y.2).trans ((gP hy).trans ?_)
  have lx := hx.len
  have hz := len_zero hy.1
  obtain ⟨b, a⟩ := x
  obtain ⟨c, d⟩ := y
  dsimp only at *
  subst hn
  have hzy : zv (false, d) = (val d : Int) := rfl
  have hpos : 0 < val d := by
    have : val d ≠ 0 := fun h => by have := hz.2 h; omega
    omega
  have hc : ¬ cmpZ (zv (false, d)) 0 ≤ 0 := by
    unfold cmpZ
    rw [if_neg (by omega), if_pos (by omega)]
    omega
  have l1 := len_dg_div (val a) (val d)
  have l2 := len_dg_mono (Nat.mod_le (val a) (val d))
  have nl : (dg (val a)).length = a.length := nrm_len hx.1
  rw [nl] at l1 l2
  rw [bD_neg hc, gP ⟨hx.1, hy.1, by omega, hl⟩]
  show _ = some [zD (zv (b, a) / zv (false, d)), zD (zv (b, a) % zv (false, d))]
  have zf : ∀ n : Nat, zs false n = (n : Int) := fun _ => rfl
  have zt : ∀ n : Nat, zs true n = -(n : Int) := fun _ => rfl
  rw [hzy]
  cases b with
  | false =>
    have hzx : zv (false, a) = (val a : Int) := rfl
    rw [Bool.not_false, bT, gP ⟨dig_dg _, by omega⟩, gP ⟨dig_dg _, by omega⟩, hzx, ← Int.natCast_ediv, ← Int.natCast_emod, val_dg, val_dg]
    rfl
  | true =>
    have hzx : zv (true, a) = -(val a : Int) := rfl
    have e1 := ZFloorShr.neg_div (val a) (val d) hpos
    have e2 := neg_mod (val a) (val d) hpos
    have hm := Nat.mod_lt (val a) hpos
    rw [Bool.not_true, bF, hzx, e1, e2]
    by_cases hr : val a % val d = 0
    · rw [hr, dg_zero, bE_pos (show ((([] : List Int).length : Nat) : Int) = 0 from rfl), if_pos rfl, if_pos rfl, gP ⟨dig_dg _, by omega⟩, gP ⟨dig_nil, by simp⟩, val_dg]
      rfl
    · have hr0 : (dg (val a % val d)).length ≠ 0 := fun h => hr (dg_len_zero.1 h)
      have l3 := len_dg_add (val a / val d) 1
      have l4 := len_dg_sub (val d) (val a % val d)
      rw [show (dg (val d)).length = d.length from nrm_len hy.1] at l4
      rw [dg_one, List.length_singleton] at l3
      rw [bE_neg (by omega), if_neg hr, if_neg hr, J6_eq, gP ⟨by omega, by omega⟩, gP ⟨dig_dg _, dig_dg _, by omega, by rw [dg_one]; simp⟩, val_dg, val_dg, gP ⟨dig_dg _, by omega⟩, gP ⟨hy.1, nrm_dg _, by omega, by omega⟩, val_dg, val_dg, gP ⟨dig_dg _, by omega⟩, val_dg, zt, zf]
      rw [show -(((val a / val d + 1 : Nat)) : Int) = -((val a / val d : Nat) : Int) - 1 by omega]
      rfl

noncomputable def orc : Orc := orc2 (pG (.pair sB (sI .u32))) (pG (.pair sB (sI .u32))) sp
theorem fnok : FnOk Tryz.prog E 175 Tryz.f175 cod := fnOk ty_ok mixed (callsOk_of _ rfl (orcs_cons ZSign.ok (orcs_cons DivMod.ok (orcs_cons Mk.ok (orcs_cons Add.ok (orcs_cons Word.ok (orcs_cons Sub.ok orcs_nil)))))) (ext_ok)) Tryz.func175 rfl rfl rfl
theorem ok : OrcOk Tryz.prog base.glob 175 orc := fnok.ok2 rfl spec
end ZFloor
end Go.Proofs.YtfebndgmmekmgaaGreatDoor.W

/- gnomon/gnomonref04.FloorDiv -/
namespace Go.Proofs.YtfebndgmmekmgaaGreatDoor.W
open Go Go.Proofs.YtfebndgmmekmgaaGreatDoor.AI Go.Proofs.YtfebndgmmekmgaaGreatDoor.M
namespace ZFloorDiv
noncomputable def E : Env := { ({ base with C := callsOf [(137, Flip.orc), (175, ZFloor.orc)] }) with nt := 20, own := [], keep := fun k => (tlook [] k).getD [], cut := tlook [(3, [2, 3, 4])] }
noncomputable def cod : Code := (Go.Proofs.Tryz.f143.body).getD .skip
theorem nok : namesOk E cod = true := by kernel_rfl
noncomputable def J3 (b0 : Bool) (xs1 : List Int) (b2 : Bool) (xs3 : List Int) (b4 : Bool) : Option (List D) := ctO E Go.Proofs.Tryz.f143 cod 3 [(A.v (V.one (L.ptr (0 : Nat) (0 : Nat))), some { e := (76 : Nat), cont := Cont.cells [S.sc (Value.bool b0), S.ints IntKind.u32 xs1] }), (A.v (V.one (L.ptr (1 : Nat) (0 : Nat))), some { e := (76 : Nat), cont := Cont.cells [S.sc (Value.bool b2), S.ints IntKind.u32 xs3] }), (A.v (V.one (L.ptr (2 : Nat) (0 : Nat))), some { e := (76 : Nat), cont := Cont.cells [S.sc (Value.bool b4), S.sc (Value.slice none (0 : Nat) (0 : Nat))] })]
theorem start (a1 : Bool) (a2 : List Int) (b1 : Bool) (b2 : List Int) : evalFn E Go.Proofs.Tryz.f143 cod [D.agg [S.sc (Value.bool a1), S.ints IntKind.u32 a2], D.agg [S.sc (Value.bool b1), S.ints IntKind.u32 b2]] = bcase b1 (gif (Zok (a1, a2)) (gif (Zok (b1, b2)) (ZFloorDiv.J3 (isNeg (-zv (a1, a2))) (dg (-zv (a1, a2)).natAbs) (isNeg (-zv (b1, b2))) (dg (-zv (b1, b2)).natAbs) false))) (ZFloorDiv.J3 a1 a2 b1 b2 false) := (evalFn_J rfl nok _).trans (by kernel_rfl)
theorem J3_eq (b0 : Bool) (xs1 : List Int) (b2 : Bool) (xs3 : List Int) (b4 : Bool) : J3 b0 xs1 b2 xs3 b4 = gif (Zok (b0, xs1) ∧ Zok (b2, xs3) ∧ (b2, xs3).fst = false ∧ (b2, xs3).snd.length = (1 : Nat)) (some [D.agg [S.sc (Value.bool (isNeg (zv (b0, xs1) / zv (b2, xs3)))), S.ints IntKind.u32 (dg (zv (b0, xs1) / zv (b2, xs3)).natAbs)]]) := (cutAt_J rfl nok 3 _).trans (by kernel_rfl)
-- stuck: 0
end ZFloorDiv
namespace ZFloorDiv
/-- The whole part of a quotient, rounded down. -/
def flD (x y : Int) : Int := if y < 0 then (-x) / (-y) else x / y
noncomputable def sp (x y : Bool × List Int) : Prop × List D := (Zok x ∧ Zok y ∧ y.2.length = 1, [zD (flD (zv x) (zv y))])
theorem zok_neg {x : Bool × List Int} (h : Zok x) : Zok (isNeg (-zv x), dg (-zv x).natAbs) := zok_zD (by rw [Int.natAbs_neg, zv_abs, nrm_len h.1]; exact h.len)
theorem spec (x y : Bool × List Int) (h : (sp x y).1) : evalFn E Tryz.f143 cod [(pG (.pair sB (sI .u32))).put x, (pG (.pair sB (sI .u32))).put y] = some (sp x y).2 := by
  obtain ⟨hx, hy, hl⟩ := h
  refine (start x.1 x.2 y.1 y.2).trans ?_
  have nx := zok_neg hx
  have ny := zok_neg hy
  have hd : dg (-zv y).natAbs = y.2 := by rw [Int.natAbs_neg]; exact hy.cells.2
  have hz := len_zero hy.1
  have hne : zv y ≠ 0 := fun h => by have := zv_abs y; have : val y.2 = 0 := by omega
                                     omega
  obtain ⟨a, p⟩ := x
  obtain ⟨b, q⟩ := y
  dsimp only at *
  unfold sp flD
  dsimp only
  cases b with
  | false =>
    have hp : zv (false, q) = (val q : Int) := rfl
    rw [bF, J3_eq, gP ⟨hx, hy, rfl, hl⟩, if_neg (by omega)]
    rfl
  | true =>
    have hp : zv (true, q) = -(val q : Int) := rfl
    have hneg : isNeg (-zv (true, q)) = false := isNeg_false.2 (by omega)
    rw [hneg, hd] at ny ⊢
    rw [bT, gP hx, gP hy, J3_eq, gP ⟨nx, ny, rfl, hl⟩, zv_zD, if_pos (by omega)]
    have : zv (false, q) = -zv (true, q) := by rw [hp]; show (val q : Int) = _; omega
    rw [this]
    rfl

noncomputable def orc : Orc := orc2 (pG (.pair sB (sI .u32))) (pG (.pair sB (sI .u32))) sp
theorem fnok : FnOk Tryz.prog E 143 Tryz.f143 cod := fnOk ty_ok mixed (callsOk_of _ rfl (orcs_cons Flip.ok (orcs_cons ZFloor.ok orcs_nil)) (ext_ok)) Tryz.func143 rfl rfl rfl
theorem ok : OrcOk Tryz.prog base.glob 143 orc := fnok.ok2 rfl spec
end ZFloorDiv
end Go.Proofs.YtfebndgmmekmgaaGreatDoor.W

/- gnomon/gnomonref04.Mod -/
namespace Go.Proofs.YtfebndgmmekmgaaGreatDoor.W
open Go Go.Proofs.YtfebndgmmekmgaaGreatDoor.AI Go.Proofs.YtfebndgmmekmgaaGreatDoor.M
namespace ZMod
noncomputable def E : Env := { ({ base with C := callsOf [(83, ZSub.orc), (84, ZMul.orc), (143, ZFloorDiv.orc)] }) with nt := 12, own := [], keep := fun k => (tlook [] k).getD [], cut := tlook [] }
noncomputable def cod : Code := (Go.Proofs.Tryz.f89.body).getD .skip
theorem nok : namesOk E cod = true := by kernel_rfl
theorem start (a1 : Bool) (a2 : List Int) (b1 : Bool) (b2 : List Int) : evalFn E Go.Proofs.Tryz.f89 cod [D.agg [S.sc (Value.bool a1), S.ints IntKind.u32 a2], D.agg [S.sc (Value.bool b1), S.ints IntKind.u32 b2]] = gif (Zok (a1, a2) ∧ Zok (b1, b2) ∧ (b1, b2).snd.length = (1 : Nat)) (gif (Zok (b1, b2) ∧ Zok (isNeg (ZFloorDiv.flD (zv (a1, a2)) (zv (b1, b2))), dg (ZFloorDiv.flD (zv (a1, a2)) (zv (b1, b2))).natAbs)) (gif (Zok (a1, a2) ∧ Zok (isNeg (zv (b1, b2) * zv (isNeg (ZFloorDiv.flD (zv (a1, a2)) (zv (b1, b2))), dg (ZFloorDiv.flD (zv (a1, a2)) (zv (b1, b2))).natAbs)), dg (zv (b1, b2) * zv (isNeg (ZFloorDiv.flD (zv (a1, a2)) (zv (b1, b2))), dg (ZFloorDiv.flD (zv (a1, a2)) (zv (b1, b2))).natAbs)).natAbs)) (some [D.agg [S.sc (Value.bool (isNeg (zv (a1, a2) - zv (isNeg (zv (b1, b2) * zv (isNeg (ZFloorDiv.flD (zv (a1, a2)) (zv (b1, b2))), dg (ZFloorDiv.flD (zv (a1, a2)) (zv (b1, b2))).natAbs)), dg (zv (b1, b2) * zv (isNeg (ZFloorDiv.flD (zv (a1, a2)) (zv (b1, b2))), dg (ZFloorDiv.flD (zv (a1, a2)) (zv (b1, b2))).natAbs)).natAbs)))), S.ints IntKind.u32 (dg (zv (a1, a2) - zv (isNeg (zv (b1, b2) * zv (isNeg (ZFloorDiv.flD (zv (a1, a2)) (zv (b1, b2))), dg (ZFloorDiv.flD (zv (a1, a2)) (zv (b1, b2))).natAbs)), dg (zv (b1, b2) * zv (isNeg (ZFloorDiv.flD (zv (a1, a2)) (zv (b1, b2))), dg (ZFloorDiv.flD (zv (a1, a2)) (zv (b1, b2))).natAbs)).natAbs)).natAbs)]]))) := (evalFn_J rfl nok _).trans (by kernel_rfl)
-- stuck: 0
end ZMod
namespace ZMod
noncomputable def sp (x y : Bool × List Int) : Prop × List D := (Zok x ∧ x.2.length ≤ 268435456 ∧ Zok y ∧ y.1 = false ∧ y.2.length = 1, [zD (zv x % zv y)])
theorem spec (x y : Bool × List Int) (h : (sp x y).1) : evalFn E Tryz.f89 cod [(pG (.pair sB (sI .u32))).put x, (pG (.pair sB (sI .u32))).put y] = some (sp x y).2 := by
  obtain ⟨hx, lx, hy, hn, hl⟩ := h
  refine (start x.1 x.2 y.1 y.2).trans ((gP ⟨hx, hy, hl⟩).trans ?_)
  have hz := len_zero hy.1
  have bx := bl_len hx.1.dig lx
  have b_y := bl_len (n := 1) hy.1.dig (by omega)
  have ax := zv_abs x
  have ay := zv_abs y
  obtain ⟨a, p⟩ := x
  obtain ⟨b, q⟩ := y
  dsimp only at *
  subst hn
  have hp : zv (false, q) = (val q : Int) := rfl
  have hpos : 0 < zv (false, q) := by
    have : val q ≠ 0 := fun h => by have := hz.2 h; omega
    omega
  have hf : ZFloorDiv.flD (zv (a, p)) (zv (false, q)) = zv (a, p) / zv (false, q) := by unfold ZFloorDiv.flD; rw [if_neg (by omega)]
  have hq : bl (zv (a, p) / zv (false, q)).natAbs ≤ 8589934592 := Nat.le_trans (bl_mono (by rw [hp]; exact div_abs (by omega))) (by rw [ax]; omega)
  have hm : bl (zv (false, q) * (zv (a, p) / zv (false, q))).natAbs ≤ 8589934700 := by
    rw [Int.natAbs_mul]
    refine Nat.le_trans (bl_mul_le _ _) ?_
    rw [ay]
    omega
  rw [hf, gP ⟨hy, zok_bl hq (by omega)⟩, zv_zD, gP ⟨hx, zok_bl hm (by omega)⟩, zv_zD]
  have : zv (a, p) - zv (false, q) * (zv (a, p) / zv (false, q)) = zv (a, p) % zv (false, q) := by
    have := Int.mul_ediv_add_emod (zv (a, p)) (zv (false, q))
    omega
  rw [this]
  rfl

noncomputable def orc : Orc := orc2 (pG (.pair sB (sI .u32))) (pG (.pair sB (sI .u32))) sp
theorem fnok : FnOk Tryz.prog E 89 Tryz.f89 cod := fnOk ty_ok mixed (callsOk_of _ rfl (orcs_cons ZSub.ok (orcs_cons ZMul.ok (orcs_cons ZFloorDiv.ok orcs_nil))) (ext_ok)) Tryz.func89 rfl rfl rfl
theorem ok : OrcOk Tryz.prog base.glob 89 orc := fnok.ok2 rfl spec
end ZMod
end Go.Proofs.YtfebndgmmekmgaaGreatDoor.W

/- gnomon/gnomonref01.Fits -/
namespace Go.Proofs.YtfebndgmmekmgaaGreatDoor.W
open Go Go.Proofs.YtfebndgmmekmgaaGreatDoor.AI Go.Proofs.YtfebndgmmekmgaaGreatDoor.M
namespace Fits
noncomputable def E : Env := { ({ base with C := callsOf [(141, To.orc)] }) with nt := 16, own := [], keep := fun k => (tlook [] k).getD [], cut := tlook [] }
noncomputable def cod : Code := (Go.Proofs.Tryz.f142.body).getD .skip
theorem nok : namesOk E cod = true := by kernel_rfl
theorem start (a : List Int) : evalFn E Go.Proofs.Tryz.f142 cod [D.s (S.ints IntKind.u32 a)] = gif (Dig a ∧ a.length ≤ (1099511627776 : Nat)) (bcase ((↑(M6.dg (val a)).length : Int) == (0 : Int)) (some [D.s (S.sc (Value.int IntKind.u64 (0 : Int))), D.s (S.sc (Value.bool true))]) (bcase ((↑(M6.dg (val a)).length : Int) == (1 : Int)) (if (0 : Int) ≤ (0 : Int) ∧ (0 : Int) < (↑(M6.dg (val a)).length : Int) then some [D.s (S.sc (Value.int IntKind.u64 ((M6.dg (val a)).getD (0 : Nat) (0 : Int)))), D.s (S.sc (Value.bool true))] else none) (some [D.s (S.sc (Value.int IntKind.u64 (0 : Int))), D.s (S.sc (Value.bool false))]))) := (evalFn_J rfl nok _).trans (by kernel_rfl)
-- stuck: 0
end Fits
namespace Fits
noncomputable def sp (a : List Int) : Prop × List D := (Dig a ∧ a.length ≤ 1099511627776, [.s (.sc (.int .u64 ((if val a < 18446744073709551616 then val a else 0 : Nat) : Int))), .s (.sc (.bool (decide (val a < 18446744073709551616))))])
theorem spec (a : List Int) (h : (sp a).1) : evalFn E Tryz.f142 cod [(pI .u32).put a] = some (sp a).2 := by
  refine (start a).trans ?_
  refine (gP h).trans ?_
  unfold sp
  simp only
  by_cases h0 : val a = 0
  · rw [h0, M6.dg_zero]; rfl
  · by_cases h1 : val a < 18446744073709551616
    · rw [if_pos h1, decide_eq_true h1, M6.dg_pos h0, Nat.mod_eq_of_lt h1, Nat.div_eq_of_lt h1, M6.dg_zero]
      rfl
    · rw [if_neg h1, decide_eq_false h1]
      have hl : 1 < (M6.dg (val a)).length := by
        rw [M6.dg_pos h0, List.length_cons]
        have : (M6.dg (val a / 18446744073709551616)).length ≠ 0 := fun hh => by have := M6.dg_len_zero.1 hh; omega
        omega
      rw [bE_neg (by omega), bE_neg (by omega)]
      rfl

noncomputable def orc : Orc := orc1 (pI .u32) sp
theorem fnok : FnOk Tryz.prog E 142 Tryz.f142 cod := fnOk ty_ok mixed (callsOk_of _ rfl (orcs_cons To.ok orcs_nil) (ext_ok)) Tryz.func142 rfl rfl rfl
theorem ok : OrcOk Tryz.prog base.glob 142 orc := fnok.ok1 rfl spec
end Fits
end Go.Proofs.YtfebndgmmekmgaaGreatDoor.W

/- gnomon/gnomonref04.Int -/
namespace Go.Proofs.YtfebndgmmekmgaaGreatDoor.W
open Go Go.Proofs.YtfebndgmmekmgaaGreatDoor.AI Go.Proofs.YtfebndgmmekmgaaGreatDoor.M
namespace ZInt
noncomputable def E : Env := { ({ base with C := callsOf [(142, Fits.orc)] }) with nt := 33, own := [], keep := fun k => (tlook [] k).getD [], cut := tlook [] }
noncomputable def cod : Code := (Go.Proofs.Tryz.f88.body).getD .skip
theorem nok : namesOk E cod = true := by kernel_rfl
theorem start (a1 : Bool) (a2 : List Int) : evalFn E Go.Proofs.Tryz.f88 cod [D.agg [S.sc (Value.bool a1), S.ints IntKind.u32 a2]] = gif (Dig a2 ∧ a2.length ≤ (1099511627776 : Nat)) (bcase (!decide (val a2 < (18446744073709551616 : Nat))) (some [D.s (S.sc (Value.int IntKind.i64 (0 : Int))), D.s (S.sc (Value.bool false))]) (bcase a1 (bcase ((↑(if val a2 < (18446744073709551616 : Nat) then val a2 else (0 : Nat)) : Int) == (9223372036854775808 : Int)) (some [D.s (S.sc (Value.int IntKind.i64 (-9223372036854775808 : Int))), D.s (S.sc (Value.bool true))]) (bcase (decide ((9223372036854775808 : Int) ≤ (↑(if val a2 < (18446744073709551616 : Nat) then val a2 else (0 : Nat)) : Int))) (some [D.s (S.sc (Value.int IntKind.i64 (0 : Int))), D.s (S.sc (Value.bool false))]) (bcase a1 (some [D.s (S.sc (Value.int IntKind.i64 (IntKind.i64.wrap ((0 : Int) - IntKind.i64.wrap (↑(if val a2 < (18446744073709551616 : Nat) then val a2 else (0 : Nat)) : Int))))), D.s (S.sc (Value.bool true))]) (some [D.s (S.sc (Value.int IntKind.i64 (IntKind.i64.wrap (↑(if val a2 < (18446744073709551616 : Nat) then val a2 else (0 : Nat)) : Int)))), D.s (S.sc (Value.bool true))])))) (bcase (decide ((9223372036854775808 : Int) ≤ (↑(if val a2 < (18446744073709551616 : Nat) then val a2 else (0 : Nat)) : Int))) (some [D.s (S.sc (Value.int IntKind.i64 (0 : Int))), D.s (S.sc (Value.bool false))]) (bcase a1 (some [D.s (S.sc (Value.int IntKind.i64 (IntKind.i64.wrap ((0 : Int) - IntKind.i64.wrap (↑(if val a2 < (18446744073709551616 : Nat) then val a2 else (0 : Nat)) : Int))))), D.s (S.sc (Value.bool true))]) (some [D.s (S.sc (Value.int IntKind.i64 (IntKind.i64.wrap (↑(if val a2 < (18446744073709551616 : Nat) then val a2 else (0 : Nat)) : Int)))), D.s (S.sc (Value.bool true))]))))) := (evalFn_J rfl nok _).trans (by kernel_rfl)
-- stuck: 0
end ZInt
namespace ZInt
/-- Does a number fit a machine's word? -/
def inI (z : Int) : Bool := decide (-9223372036854775808 ≤ z) && decide (z < 9223372036854775808)
noncomputable def sp (x : Bool × List Int) : Prop × List D := (Zok x, [.s (.sc (.int .i64 (bif inI (zv x) then zv x else 0))), .s (.sc (.bool (inI (zv x))))])
theorem spec (x : Bool × List Int) (h : (sp x).1) : evalFn E Tryz.f88 cod [(pG (.pair sB (sI .u32))).put x] = some (sp x).2 := by
  have h : Zok x := h
  have l := h.len
  refine (start x.1 x.2).trans ((gP ⟨h.1.dig, by omega⟩).trans ?_)
  have yes : ∀ z : Int, -9223372036854775808 ≤ z → z < 9223372036854775808 → inI z = true := fun z h h' => by unfold inI; rw [decide_eq_true h, decide_eq_true h']; rfl
  have no : ∀ z : Int, (z < -9223372036854775808 ∨ 9223372036854775808 ≤ z) → inI z = false := fun z h => by
    unfold inI
    rcases h with h | h
    · rw [decide_eq_false (by omega), Bool.false_and]
    · rw [decide_eq_false (show ¬ z < _ by omega), Bool.and_false]
  unfold sp
  dsimp only
  obtain ⟨b, a⟩ := x
  dsimp only at *
  by_cases h1 : val a < 18446744073709551616
  · rw [decide_eq_true h1, if_pos h1, Bool.not_true, bF]
    cases b with
    | true =>
      have hz : zv (true, a) = -(val a : Int) := rfl
      rw [bT, bT]
      by_cases h2 : (val a : Int) = 9223372036854775808
      · rw [bE_pos h2, yes _ (by omega) (by omega), hz, h2]; rfl
      · rw [bE_neg h2]
        by_cases h3 : (9223372036854775808 : Int) ≤ val a
        · rw [bD_pos h3, no _ (by omega)]; rfl
        · rw [bD_neg h3, wrap_i64 (n := (val a : Int)) (by omega) (by omega), wrap_i64 (n := 0 - (val a : Int)) (by omega) (by omega), yes _ (by omega) (by omega), hz, Int.zero_sub]; rfl
    | false =>
      have hz : zv (false, a) = (val a : Int) := rfl
      rw [bF, bF]
      by_cases h3 : (9223372036854775808 : Int) ≤ val a
      · rw [bD_pos h3, no _ (by omega)]; rfl
      · rw [bD_neg h3, wrap_i64 (n := (val a : Int)) (by omega) (by omega), yes _ (by omega) (by omega), hz]; rfl
  · rw [decide_eq_false h1, Bool.not_false, bT]
    have : inI (zv (b, a)) = false := by
      refine no _ ?_
      have := zv_abs (b, a)
      dsimp only at this
      omega
    rw [this]
    rfl

noncomputable def orc : Orc := orc1 (pG (.pair sB (sI .u32))) sp
theorem fnok : FnOk Tryz.prog E 88 Tryz.f88 cod := fnOk ty_ok mixed (callsOk_of _ rfl (orcs_cons Fits.ok orcs_nil) (ext_ok)) Tryz.func88 rfl rfl rfl
theorem ok : OrcOk Tryz.prog base.glob 88 orc := fnok.ok1 rfl spec
end ZInt
end Go.Proofs.YtfebndgmmekmgaaGreatDoor.W

/- gnomon/gnomonref17.quarter -/
namespace Go.Proofs.YtfebndgmmekmgaaGreatDoor.W
open Go Go.Proofs.YtfebndgmmekmgaaGreatDoor.AI Go.Proofs.YtfebndgmmekmgaaGreatDoor.M
namespace Quarter17
noncomputable def E : Env := { ({ base with C := callsOf [(89, ZMod.orc), (90, ZOf.orc), (88, ZInt.orc)] }) with nt := 13, own := [9], keep := fun k => (tlook [] k).getD [], cut := tlook [] }
noncomputable def cod : Code := (Go.Proofs.Tryz.f38.body).getD .skip
theorem nok : namesOk E cod = true := by kernel_rfl
theorem start (a1 : Bool) (a2 : List Int) : evalFn E Go.Proofs.Tryz.f38 cod [D.agg [S.sc (Value.bool a1), S.ints IntKind.u32 a2]] = gif ((-9223372036854775808 : Int) ≤ (4 : Int) ∧ (4 : Int) < (9223372036854775808 : Int)) (gif (Zok (a1, a2) ∧ (a1, a2).snd.length ≤ (268435456 : Nat) ∧ Zok (isNeg (4 : Int), dg (4 : Nat)) ∧ (isNeg (4 : Int), dg (4 : Nat)).fst = false ∧ (isNeg (4 : Int), dg (4 : Nat)).snd.length = (1 : Nat)) (vlet (isNeg (zv (a1, a2) % zv (isNeg (4 : Int), dg (4 : Nat)))) fun y0 => vlet (dg (zv (a1, a2) % zv (isNeg (4 : Int), dg (4 : Nat))).natAbs) fun y1 => gif (Zok (y0, y1)) (vlet (bif ZInt.inI (zv (y0, y1)) then zv (y0, y1) else (0 : Int)) fun y2 => some [D.s (S.sc (Value.int IntKind.i64 y2))]))) := (evalFn_J rfl nok _).trans (by kernel_rfl)
-- stuck: 0
end Quarter17
namespace Quarter17
theorem small_zok {z : Int} (h : z.natAbs < 4294967296) : Zok (isNeg z, dg z.natAbs) ∧ (dg z.natAbs).length ≤ 1 := by
  have : (dg z.natAbs).length ≤ 1 := len_dg_le (by omega)
  exact ⟨zok_zD (by omega), this⟩
theorem one_dig {z : Int} (h : z.natAbs < 4294967296) (h0 : 0 < z) : Zok (isNeg z, dg z.natAbs) ∧ isNeg z = false ∧ (dg z.natAbs).length = 1 := by
  have h1 := small_zok h
  have h2 : (dg z.natAbs).length ≠ 0 := fun hh => by have := dg_len_zero.1 hh; omega
  exact ⟨h1.1, isNeg_false.2 (by omega), by omega⟩
noncomputable def sp (x : Bool × List Int) : Prop × List D := (Zok x ∧ x.2.length ≤ 268435456, [.s (.sc (.int .i64 (zv x % 4)))])
theorem spec (x : Bool × List Int) (h : (sp x).1) : evalFn E Tryz.f38 cod [(pG (.pair sB (sI .u32))).put x] = some (sp x).2 := by
  obtain ⟨hx, hl⟩ := h
  obtain ⟨o1, o2, o3⟩ := one_dig (z := 4) (by decide) (by decide)
  refine (start x.1 x.2).trans ((gP ⟨by omega, by omega⟩).trans ((gP ⟨hx, hl, o1, o2, o3⟩).trans ?_))
  have e4 : zv (isNeg 4, dg 4) = 4 := zv_zD 4
  rw [e4, vl_z, zv_zD]
  show gif _ (vlet (bif ZInt.inI (zv x % 4) then zv x % 4 else 0) _) = some [D.s (.sc (.int .i64 (zv x % 4)))]
  have hr : 0 ≤ zv x % 4 ∧ zv x % 4 < 4 := by omega
  have : ZInt.inI (zv x % 4) = true := by unfold ZInt.inI; rw [decide_eq_true (by omega), decide_eq_true (by omega)]; rfl
  rw [gP (small_zok (by omega)).1, this]
  rfl

noncomputable def orc : Orc := orc1 (pG (.pair sB (sI .u32))) sp
theorem fnok : FnOk Tryz.prog E 38 Tryz.f38 cod := fnOk ty_ok mixed (callsOk_of _ rfl (orcs_cons ZMod.ok (orcs_cons ZOf.ok (orcs_cons ZInt.ok orcs_nil))) (ext_ok)) Tryz.func38 rfl rfl rfl
theorem ok : OrcOk Tryz.prog base.glob 38 orc := fnok.ok1 rfl spec
end Quarter17
end Go.Proofs.YtfebndgmmekmgaaGreatDoor.W

/- gnomon/gnomonref17.DocReduce -/
namespace Go.Proofs.YtfebndgmmekmgaaGreatDoor.W
open Go Go.Proofs.YtfebndgmmekmgaaGreatDoor.AI Go.Proofs.YtfebndgmmekmgaaGreatDoor.M
namespace DocReduce17
noncomputable def E : Env := { ({ base with C := callsOf [(35, Finite17.orc), (36, Split17.orc), (37, Told5.orc), (38, Quarter17.orc)] }) with nt := 29, own := [27], keep := fun k => (tlook [] k).getD [], cut := tlook [] }
noncomputable def cod : Code := (Go.Proofs.Tryz.f10.body).getD .skip
theorem nok : namesOk E cod = true := by kernel_rfl
theorem start (a : Int) : evalFn E Go.Proofs.Tryz.f10 cod [D.s (S.sc (Value.int IntKind.u64 a))] = gif ((0 : Int) ≤ a ∧ a < (18446744073709551616 : Int)) (vlet (BFinite.finB (64 : Int) a) fun y0 => bcase (!y0) (some [D.s (S.sc (Value.int IntKind.i64 (0 : Int))), D.agg [S.sc (Value.bool false), S.sc (Value.slice none (0 : Nat) (0 : Nat)), S.sc (Value.int IntKind.i64 (0 : Int))], D.s (S.sc (Value.int IntKind.i64 (6 : Int)))]) (gif (((0 : Int) ≤ a ∧ a < (18446744073709551616 : Int)) ∧ BFinite.finB (64 : Int) a = true) (vlet (isNeg (UReduce.redK (UExact.numF (64 : Int) a))) fun y1 => vlet (dg (UReduce.redK (UExact.numF (64 : Int) a)).natAbs) fun y2 => vlet (isNeg (UReduce.redR (UExact.numF (64 : Int) a))) fun y3 => vlet (dg (UReduce.redR (UExact.numF (64 : Int) a)).natAbs) fun y4 => vlet (if (0 : Int) ≤ (UExact.numF (64 : Int) a).snd then (0 : Int) else (UExact.numF (64 : Int) a).snd - (1 : Int)) fun y5 => gif (Zok (y3, y4) ∧ (y3, y4).snd.length ≤ (268435456 : Nat) ∧ (-4611686018427387904 : Int) ≤ y5 ∧ y5 < (4611686018427387904 : Int)) (vlet (isNeg (bif Told5.toldOk (zv (y3, y4)) y5 then nrmD (zv (y3, y4)) y5 else ((0 : Int), (0 : Int))).fst) fun y6 => vlet (M6.dg (bif Told5.toldOk (zv (y3, y4)) y5 then nrmD (zv (y3, y4)) y5 else ((0 : Int), (0 : Int))).fst.natAbs) fun y7 => vlet (bif Told5.toldOk (zv (y3, y4)) y5 then nrmD (zv (y3, y4)) y5 else ((0 : Int), (0 : Int))).snd fun y8 => gif (Zok (y1, y2) ∧ (y1, y2).snd.length ≤ (268435456 : Nat)) (vlet (zv (y1, y2) % (4 : Int)) fun y10 => some [D.s (S.sc (Value.int IntKind.i64 y10)), D.agg [S.sc (Value.bool y6), S.ints IntKind.u64 y7, S.sc (Value.int IntKind.i64 y8)], D.s (S.sc (Value.int IntKind.i64 (0 : Int)))]))))) := (evalFn_J rfl nok _).trans (by kernel_rfl)
-- stuck: 0
end DocReduce17
namespace DocReduce17
theorem numF_lt {a : Int} (h0 : 0 ≤ a) (hfin : BFinite.finB 64 a = true) : bl (UExact.numF 64 a).1.natAbs ≤ 53 ∧ -1074 ≤ (UExact.numF 64 a).2 ∧ (UExact.numF 64 a).2 ≤ 1100 := by
  obtain ⟨hp, hz, he⟩ := UExact.numF_pin (.inr rfl) h0 hfin
  have ha := nrmD_abs (BValue.valZ 64 a) (BValue.valE 64 a)
  refine ⟨bl_le.2 (by unfold UExact.numF; omega), ?_⟩
  unfold UExact.numF
  by_cases hz0 : BValue.valZ 64 a = 0
  · rw [hz0, nrmD_zero]; dsimp only; omega
  · have h1 := (nrmD_val (e := BValue.valE 64 a) hz0).2
    have h2 := tz_bl (n := (BValue.valZ 64 a).natAbs) (by omega)
    have h3 : bl (BValue.valZ 64 a).natAbs ≤ 53 := bl_le.2 hz
    omega
noncomputable def sp (a : Int) : Prop × List D := (0 ≤ a ∧ a < 18446744073709551616, [.s (.sc (.int .i64 (bif BFinite.finB 64 a then UReduce.redK (UReduce.numV a) % 4 else 0))), dD (bif BFinite.finB 64 a then UReduce.redD (UReduce.numV a) else (0, 0)), .s (.sc (.int .i64 (bif BFinite.finB 64 a then 0 else 6)))])
theorem spec (a : Int) (h : (sp a).1) : ∃ rs, evalFn E Tryz.f10 cod [(pN .u64).put a] = some rs ∧ RsLe rs (sp a).2 := by
  have h : 0 ≤ a ∧ a < 18446744073709551616 := h
  have s := (start a).trans (gP h)
  rw [vl] at s
  unfold sp
  dsimp only
  cases hf : BFinite.finB 64 a with
  | false =>
    rw [hf, Bool.not_false, bT] at s
    refine ⟨_, s, .cons (RLe.refl _) (.cons ?_ (RsLe.refl _))⟩
    unfold dD
    rw [cond_false, show ((0, 0) : Int × Int).1.natAbs = 0 from rfl, M6.dg_zero]
    exact RLe.agg (.cons (SLe.refl _) (.cons (SLe.nil _) (CsLe.refl _)))
  | true =>
    obtain ⟨bm, h0, h1⟩ := numF_lt h.1 hf
    obtain ⟨bK, bR⟩ := Split17.red_bl bm h0 h1
    rw [hf, Bool.not_true, bF, gP ⟨h, rfl⟩] at s
    rw [show UReduce.numV a = UExact.numF 64 a from rfl]
    have hD : UReduce.redD (UExact.numF 64 a) = nrmD (UReduce.redR (UExact.numF 64 a)) ((UExact.numF 64 a).2 - 1) := rfl
    have hR : UReduce.redR (UExact.numF 64 a) = if 0 ≤ (UExact.numF 64 a).2 then 0 else (UExact.numF 64 a).1 * 2 - UReduce.redK (UExact.numF 64 a) * p2 (-(UExact.numF 64 a).2) := rfl
    dsimp only [cond_true]
    generalize UReduce.redK (UExact.numF 64 a) = K at *
    generalize UReduce.redR (UExact.numF 64 a) = R at *
    generalize UReduce.redD (UExact.numF 64 a) = Q at *
    generalize UExact.numF 64 a = p at *
    have hy : -1075 ≤ (if 0 ≤ p.2 then 0 else p.2 - 1) ∧ (if 0 ≤ p.2 then 0 else p.2 - 1) ≤ 0 := by split <;> omega
    have hn : nrmD R (if 0 ≤ p.2 then 0 else p.2 - 1) = Q := by
      rw [hD, hR]
      by_cases hc : 0 ≤ p.2
      · rw [if_pos hc, if_pos hc, nrmD_zero, nrmD_zero]
      · rw [if_neg hc, if_neg hc]
    have hok : Told5.toldOk R (if 0 ≤ p.2 then 0 else p.2 - 1) = true := by
      unfold Told5.toldOk fit
      have := bl_mono (nrmD_abs R (if 0 ≤ p.2 then 0 else p.2 - 1))
      rw [inD_of (by omega) (by omega), decide_eq_true (by omega)]
      rfl
    have lR := len_bl bR
    have lK := len_bl bK
    rw [vl_z, vl_z, vl, gP ⟨zok_bl bR (by omega), by dsimp only; omega, by omega, by omega⟩, zv_zD, hok, hn, vl_dy, gP ⟨zok_bl bK (by omega), by dsimp only; omega⟩, zv_zD, vl] at s
    exact ⟨_, s, RsLe.refl _⟩

noncomputable def orc : Orc := orc1 (pN .u64) sp
theorem fnok : FnOk Tryz.prog E 10 Tryz.f10 cod := fnOk ty_ok mixed (callsOk_of _ rfl (orcs_cons Finite17.ok (orcs_cons Split17.ok (orcs_cons Told5.ok (orcs_cons Quarter17.ok orcs_nil)))) (ext_ok)) Tryz.func10 rfl rfl rfl
theorem ok : OrcOk Tryz.prog base.glob 10 orc := fnok.wk1 rfl spec
end DocReduce17
end Go.Proofs.YtfebndgmmekmgaaGreatDoor.W

/- gnomon/turn.point -/
namespace Go.Proofs.YtfebndgmmekmgaaGreatDoor.W
open Go Go.Proofs.YtfebndgmmekmgaaGreatDoor.AI Go.Proofs.YtfebndgmmekmgaaGreatDoor.M
namespace UPoint
noncomputable def E : Env := { ({ base with C := callsOf [(32, UDyad.orc)] }) with nt := 8, own := [], keep := fun k => (tlook [] k).getD [], cut := tlook [] }
noncomputable def cod : Code := (Go.Proofs.Tryz.f70.body).getD .skip
theorem nok : namesOk E cod = true := by kernel_rfl
theorem start (a : Int) : evalFn E Go.Proofs.Tryz.f70 cod [D.s (S.sc (Value.int IntKind.i64 a))] = gif (((-9223372036854775808 : Int) ≤ a ∧ a < (9223372036854775808 : Int)) ∧ (-9223372036854775808 : Int) ≤ (0 : Int) ∧ (0 : Int) < (9223372036854775808 : Int)) (gif (((-9223372036854775808 : Int) ≤ a ∧ a < (9223372036854775808 : Int)) ∧ (-9223372036854775808 : Int) ≤ (0 : Int) ∧ (0 : Int) < (9223372036854775808 : Int)) (some [D.agg [S.sc (Value.bool (isNeg (bif inD a (0 : Int) then nrmD a (0 : Int) else ((0 : Int), (0 : Int))).fst)), S.ints IntKind.u64 (M6.dg (bif inD a (0 : Int) then nrmD a (0 : Int) else ((0 : Int), (0 : Int))).fst.natAbs), S.sc (Value.int IntKind.i64 (bif inD a (0 : Int) then nrmD a (0 : Int) else ((0 : Int), (0 : Int))).snd), S.sc (Value.bool (isNeg (bif inD a (0 : Int) then nrmD a (0 : Int) else ((0 : Int), (0 : Int))).fst)), S.ints IntKind.u64 (M6.dg (bif inD a (0 : Int) then nrmD a (0 : Int) else ((0 : Int), (0 : Int))).fst.natAbs), S.sc (Value.int IntKind.i64 (bif inD a (0 : Int) then nrmD a (0 : Int) else ((0 : Int), (0 : Int))).snd)]])) := (evalFn_J rfl nok _).trans (by kernel_rfl)
-- stuck: 0
end UPoint
namespace UPoint
/-- The span of a small whole number, as it lies. -/
def sD (p q : Int × Int) : D := .agg [.sc (.bool (isNeg p.1)), .ints .u64 (M6.dg p.1.natAbs), .sc (.int .i64 p.2), .sc (.bool (isNeg q.1)), .ints .u64 (M6.dg q.1.natAbs), .sc (.int .i64 q.2)]
noncomputable def sp (m : Int) : Prop × List D := (-9223372036854775808 ≤ m ∧ m < 9223372036854775808, [sD (nrmD m 0) (nrmD m 0)])
theorem spec (m : Int) (h : (sp m).1) : evalFn E Tryz.f70 cod [(pN .i64).put m] = some (sp m).2 := by
  have h : -9223372036854775808 ≤ m ∧ m < 9223372036854775808 := h
  refine (start m).trans ?_
  have hb : bl m.natAbs ≤ 64 := bl_le.2 (by omega)
  rw [gP ⟨h, by omega, by omega⟩, gP ⟨h, by omega, by omega⟩]
  have e : (bif inD m 0 then nrmD m 0 else ((0 : Int), (0 : Int))) = nrmD m 0 := by rw [inD_of (by omega) (by omega)]; rfl
  rw [e]
  rfl

noncomputable def orc : Orc := orc1 (pN .i64) sp
theorem fnok : FnOk Tryz.prog E 70 Tryz.f70 cod := fnOk ty_ok mixed (callsOk_of _ rfl (orcs_cons UDyad.ok orcs_nil) (ext_ok)) Tryz.func70 rfl rfl rfl
theorem ok : OrcOk Tryz.prog base.glob 70 orc := fnok.ok1 rfl spec
end UPoint
end Go.Proofs.YtfebndgmmekmgaaGreatDoor.W

/- gnomon/turn.Enclose -/
namespace Go.Proofs.YtfebndgmmekmgaaGreatDoor.W
open Go Go.Proofs.YtfebndgmmekmgaaGreatDoor.AI Go.Proofs.YtfebndgmmekmgaaGreatDoor.M
namespace UEnclose
noncomputable def E : Env := { ({ base with C := callsOf [(40, UKnown.orc), (15, BValue.orc), (70, UPoint.orc), (43, UExact0.orc)] }) with nt := 98, own := [33], keep := fun k => (tlook [] k).getD [], cut := tlook [(3, [0, 1, 2, 6])] }
noncomputable def cod : Code := (Go.Proofs.Tryz.f28.body).getD .skip
theorem nok : namesOk E cod = true := by kernel_rfl
noncomputable def J3 (x0 : Int) (x1 : Int) (x2 : Int) (b3 : Bool) (x4 : Int) (b5 : Bool) (x6 : Int) : Option (List D) := ctO E Go.Proofs.Tryz.f28 cod 3 [(A.v (V.one (L.s (S.sc (Value.int IntKind.i64 x0)))), none), (A.v (V.one (L.s (S.sc (Value.int IntKind.u64 x1)))), none), (A.v (V.one (L.s (S.sc (Value.int IntKind.i64 x2)))), none), (A.v (V.one (L.ptr (3 : Nat) (0 : Nat))), some { e := (67 : Nat), cont := Cont.cells [S.sc (Value.bool b3), S.sc (Value.slice none (0 : Nat) (0 : Nat)), S.sc (Value.int IntKind.i64 x4), S.sc (Value.bool b5), S.sc (Value.slice none (0 : Nat) (0 : Nat)), S.sc (Value.int IntKind.i64 x6)] })]
theorem start (a : Int) (b : Int) (c : Int) : evalFn E Go.Proofs.Tryz.f28 cod [D.s (S.sc (Value.int IntKind.i64 a)), D.s (S.sc (Value.int IntKind.u64 b)), D.s (S.sc (Value.int IntKind.i64 c))] = gif True (bcase (!UKnown.knownB a) (some [D.agg [S.sc (Value.bool false), S.sc (Value.slice none (0 : Nat) (0 : Nat)), S.sc (Value.int IntKind.i64 (0 : Int)), S.sc (Value.bool false), S.sc (Value.slice none (0 : Nat) (0 : Nat)), S.sc (Value.int IntKind.i64 (0 : Int))], D.s (S.sc (Value.int IntKind.i64 (1 : Int)))]) (bcase (decide (c < (1 : Int))) (some [D.agg [S.sc (Value.bool false), S.sc (Value.slice none (0 : Nat) (0 : Nat)), S.sc (Value.int IntKind.i64 (0 : Int)), S.sc (Value.bool false), S.sc (Value.slice none (0 : Nat) (0 : Nat)), S.sc (Value.int IntKind.i64 (0 : Int))], D.s (S.sc (Value.int IntKind.i64 (1 : Int)))]) (bcase (decide ((66000 : Int) < c)) (some [D.agg [S.sc (Value.bool false), S.sc (Value.slice none (0 : Nat) (0 : Nat)), S.sc (Value.int IntKind.i64 (0 : Int)), S.sc (Value.bool false), S.sc (Value.slice none (0 : Nat) (0 : Nat)), S.sc (Value.int IntKind.i64 (0 : Int))], D.s (S.sc (Value.int IntKind.i64 (1 : Int)))]) (UEnclose.J3 a b c false (0 : Int) false (0 : Int))))) := (evalFn_J rfl nok _).trans (by kernel_rfl)
theorem J3_eq (x0 : Int) (x1 : Int) (x2 : Int) (b3 : Bool) (x4 : Int) (b5 : Bool) (x6 : Int) : J3 x0 x1 x2 b3 x4 b5 x6 = gif (((64 : Int) = (32 : Int) ∨ (64 : Int) = (64 : Int)) ∧ (0 : Int) ≤ x1 ∧ x1 < (18446744073709551616 : Int))
  (vlet (isNeg (bif BTake.patB (64 : Int) x1 && BFinite.finB (64 : Int) x1 then nrmD (BValue.valZ (64 : Int) x1) (BValue.valE (64 : Int) x1) else ((0 : Int), (0 : Int))).fst) fun y0 ↦
    vlet (M6.dg (bif BTake.patB (64 : Int) x1 && BFinite.finB (64 : Int) x1 then nrmD (BValue.valZ (64 : Int) x1) (BValue.valE (64 : Int) x1) else ((0 : Int), (0 : Int))).fst.natAbs) fun y1 ↦
      vlet (bif BTake.patB (64 : Int) x1 && BFinite.finB (64 : Int) x1 then nrmD (BValue.valZ (64 : Int) x1) (BValue.valE (64 : Int) x1) else ((0 : Int), (0 : Int))).snd fun y2 => vlet (bif BTake.patB (64 : Int) x1 then bif BFinite.finB (64 : Int) x1 then (0 : Int) else (6 : Int) else (2 : Int)) fun y3 => bcase (y3 != (0 : Int)) (some [D.agg [S.sc (Value.bool false), S.sc (Value.slice none (0 : Nat) (0 : Nat)), S.sc (Value.int IntKind.i64 (0 : Int)), S.sc (Value.bool false), S.sc (Value.slice none (0 : Nat) (0 : Nat)), S.sc (Value.int IntKind.i64 (0 : Int))], D.s (S.sc (Value.int IntKind.i64 y3))]) (bcase ((↑y1.length : Int) == (0 : Int)) (bcase (x0 == (5 : Int)) (gif ((-9223372036854775808 : Int) ≤ (1 : Int) ∧ (1 : Int) < (9223372036854775808 : Int)) (vlet (isNeg (nrmD (1 : Int) (0 : Int)).fst) fun y4 => vlet (M6.dg (nrmD (1 : Int) (0 : Int)).fst.natAbs) fun y5 => vlet (nrmD (1 : Int) (0 : Int)).snd fun y6 => vlet (isNeg (nrmD (1 : Int) (0 : Int)).fst) fun y7 => vlet (M6.dg (nrmD (1 : Int) (0 : Int)).fst.natAbs) fun y8 => vlet (nrmD (1 : Int) (0 : Int)).snd fun y9 => some [D.agg [S.sc (Value.bool y4), S.ints IntKind.u64 y5, S.sc (Value.int IntKind.i64 y6), S.sc (Value.bool y7), S.ints IntKind.u64 y8, S.sc (Value.int IntKind.i64 y9)], D.s (S.sc (Value.int IntKind.i64 (0 : Int)))])) (gif ((-9223372036854775808 : Int) ≤ (0 : Int) ∧ (0 : Int) < (9223372036854775808 : Int)) (vlet (isNeg (nrmD (0 : Int) (0 : Int)).fst) fun y10 => vlet (M6.dg (nrmD (0 : Int) (0 : Int)).fst.natAbs) fun y11 => vlet (nrmD (0 : Int) (0 : Int)).snd fun y12 => vlet (isNeg (nrmD (0 : Int) (0 : Int)).fst) fun y13 => vlet (M6.dg (nrmD (0 : Int) (0 : Int)).fst.natAbs) fun y14 => vlet (nrmD (0 : Int) (0 : Int)).snd fun y15 => some [D.agg [S.sc (Value.bool y10), S.ints IntKind.u64 y11, S.sc (Value.int IntKind.i64 y12), S.sc (Value.bool y13), S.ints IntKind.u64 y14, S.sc (Value.int IntKind.i64 y15)], D.s (S.sc (Value.int IntKind.i64 (0 : Int)))]))) (gif (DyOk (y0, y1, y2)) (vlet (UExact0.exV x0 (dv (y0, y1, y2))).fst fun y16 => vlet (UExact0.exV x0 (dv (y0, y1, y2))).snd.fst fun y17 => vlet (UExact0.exV x0 (dv (y0, y1, y2))).snd.snd fun y18 => bcase y18 (bcase (y16 == (2 : Int)) (some [D.agg [S.sc (Value.bool false), S.sc (Value.slice none (0 : Nat) (0 : Nat)), S.sc (Value.int IntKind.i64 (0 : Int)), S.sc (Value.bool false), S.sc (Value.slice none (0 : Nat) (0 : Nat)), S.sc (Value.int IntKind.i64 (0 : Int))], D.s (S.sc (Value.int IntKind.i64 (6 : Int)))]) (bcase y17 (gif ((-9223372036854775808 : Int) ≤ IntKind.i64.wrap ((0 : Int) - y16) ∧ IntKind.i64.wrap ((0 : Int) - y16) < (9223372036854775808 : Int)) (vlet (isNeg (nrmD (IntKind.i64.wrap ((0 : Int) - y16)) (0 : Int)).fst) fun y19 => vlet (M6.dg (nrmD (IntKind.i64.wrap ((0 : Int) - y16)) (0 : Int)).fst.natAbs) fun y20 => vlet (nrmD (IntKind.i64.wrap ((0 : Int) - y16)) (0 : Int)).snd fun y21 => vlet (isNeg (nrmD (IntKind.i64.wrap ((0 : Int) - y16)) (0 : Int)).fst) fun y22 => vlet (M6.dg (nrmD (IntKind.i64.wrap ((0 : Int) - y16)) (0 : Int)).fst.natAbs) fun y23 => vlet (nrmD (IntKind.i64.wrap ((0 : Int) - y16)) (0 : Int)).snd fun y24 => some [D.agg [S.sc (Value.bool y19), S.ints IntKind.u64 y20, S.sc (Value.int IntKind.i64 y21), S.sc (Value.bool y22), S.ints IntKind.u64 y23, S.sc (Value.int IntKind.i64 y24)], D.s (S.sc (Value.int IntKind.i64 (0 : Int)))])) (gif ((-9223372036854775808 : Int) ≤ y16 ∧ y16 < (9223372036854775808 : Int)) (vlet (isNeg (nrmD y16 (0 : Int)).fst) fun y25 => vlet (M6.dg (nrmD y16 (0 : Int)).fst.natAbs) fun y26 => vlet (nrmD y16 (0 : Int)).snd fun y27 => vlet (isNeg (nrmD y16 (0 : Int)).fst) fun y28 => vlet (M6.dg (nrmD y16 (0 : Int)).fst.natAbs) fun y29 => vlet (nrmD y16 (0 : Int)).snd fun y30 => some [D.agg [S.sc (Value.bool y25), S.ints IntKind.u64 y26, S.sc (Value.int IntKind.i64 y27), S.sc (Value.bool y28), S.ints IntKind.u64 y29, S.sc (Value.int IntKind.i64 y30)], D.s (S.sc (Value.int IntKind.i64 (0 : Int)))])))) none)))) := (cutAt_J rfl nok 3 _).trans (by kernel_rfl)
-- stuck: 0
end UEnclose
namespace UEnclose
/-- A span and an error, of an exact case. -/
def encV (fn : Int) (b : Int) : Int := if (UExact.numF 64 b).1 = 0 then (if fn = 5 then 1 else 0) else if (UExact0.exV fn (UExact.numF 64 b)).2.1 = true then -(UExact0.exV fn (UExact.numF 64 b)).1 else (UExact0.exV fn (UExact.numF 64 b)).1
/-- An exact case that is no pole. -/
def EncIn (fn b p : Int) : Prop := UKnown.knownB fn = true ∧ 1 ≤ p ∧ p ≤ 66000 ∧ BFinite.finB 64 b = true ∧ ((UExact.numF 64 b).1 ≠ 0 → (UExact0.exV fn (UExact.numF 64 b)).2.2 = true ∧ (UExact0.exV fn (UExact.numF 64 b)).1 ≠ 2)
noncomputable def sp (fn b p : Int) : Prop × List D := ((0 ≤ b ∧ b < 18446744073709551616) ∧ EncIn fn b p, [UPoint.sD (nrmD (encV fn b) 0) (nrmD (encV fn b) 0), .s (.sc (.int .i64 0))])
theorem spec (fn b p : Int) (h : (sp fn b p).1) : evalFn E Tryz.f28 cod [(pN .i64).put fn, (pN .u64).put b, (pN .i64).put p] = some (sp fn b p).2 := by
  obtain ⟨h, hk, hp1, hp2, hf, hx⟩ := h
  refine (start fn b p).trans ((gP trivial).trans ?_)
  have hp : BTake.patB 64 b = true := rfl
  have e1 : (bif BTake.patB 64 b && BFinite.finB 64 b then nrmD (BValue.valZ 64 b) (BValue.valE 64 b) else ((0 : Int), (0 : Int))) = UExact.numF 64 b := by rw [hp, hf]; rfl
  have e2 : (bif BTake.patB 64 b then bif BFinite.finB 64 b then (0 : Int) else 6 else 2) = 0 := by rw [hp, hf]; rfl
  rw [hk, Bool.not_true, bF, bD_neg (by omega), bD_neg (by omega), J3_eq, gP ⟨.inr rfl, h⟩, e1, e2, vl_dy, vl, bN_neg rfl]
  have hpin := (UExact.numF_pin (.inr rfl) h.1 hf).1
  unfold sp encV
  dsimp only
  generalize UExact.numF 64 b = q at *
  have hl : (M6.dg q.1.natAbs).length = 0 ↔ q.1 = 0 := by rw [M6.dg_len_zero]; omega
  by_cases hz : q.1 = 0
  · rw [bE_pos (by have := hl.2 hz; omega), if_pos hz]
    by_cases h5 : fn = 5
    · rw [bE_pos h5, if_pos h5, gP (by omega)]; rfl
    · rw [bE_neg h5, if_neg h5, gP (by omega)]; rfl
  · obtain ⟨hx1, hx2⟩ := hx hz
    have hs := UExact.ex_size fn q
    rw [bE_neg (fun h => hz (hl.1 (by omega))), if_neg hz, gP (dyok_of hpin), dv_cells, vl, vl, vl, hx1, bT, bE_neg hx2]
    cases hn : (UExact0.exV fn q).2.1 with
    | false => rw [bF, if_neg (by simp), gP (by omega)]; rfl
    | true => rw [bT, if_pos rfl, wrap_i64 (n := 0 - (UExact0.exV fn q).1) (by omega) (by omega), Int.zero_sub, gP (by omega)]; rfl

noncomputable def orc : Orc := orc3 (pN .i64) (pN .u64) (pN .i64) sp
theorem fnok : FnOk Tryz.prog E 28 Tryz.f28 cod := fnOk ty_ok mixed (callsOk_of _ rfl (orcs_cons UKnown.ok (orcs_cons BValue.ok (orcs_cons UPoint.ok (orcs_cons UExact0.ok orcs_nil)))) (ext_ok)) Tryz.func28 rfl rfl rfl
theorem ok : OrcOk Tryz.prog base.glob 28 orc := fnok.ok3 rfl spec
end UEnclose
end Go.Proofs.YtfebndgmmekmgaaGreatDoor.W

/- gnomon/gnomonref01.Same -/
namespace Go.Proofs.YtfebndgmmekmgaaGreatDoor.W
open Go Go.Proofs.YtfebndgmmekmgaaGreatDoor.AI Go.Proofs.YtfebndgmmekmgaaGreatDoor.M
namespace Same
noncomputable def E : Env := { (base) with nt := 26, own := [], keep := fun k => (tlook [(4, [0, 1, 5])] k).getD [], cut := tlook [] }
noncomputable def cod : Code := (Go.Proofs.Tryz.f39.body).getD .skip
theorem nok : namesOk E cod = true := by kernel_rfl
noncomputable def L4 (xs0 : List Int) (xs1 : List Int) (x2 : Int) : Option (List D) := lpO E Go.Proofs.Tryz.f39 cod 4 [(A.v (V.one (L.s (S.ints IntKind.u64 xs0))), none), (A.v (V.one (L.s (S.ints IntKind.u64 xs1))), none), (A.v (V.one (L.s (S.sc (Value.int IntKind.i64 x2)))), none)]
theorem start (a : List Int) (b : List Int) : evalFn E Go.Proofs.Tryz.f39 cod [D.s (S.ints IntKind.u64 a), D.s (S.ints IntKind.u64 b)] = bcase ((↑a.length : Int) != (↑b.length : Int)) (some [D.s (S.sc (Value.bool false))]) (Same.L4 a b (0 : Int)) := (evalFn_J rfl nok _).trans (by kernel_rfl)
theorem L4_eq (xs0 : List Int) (xs1 : List Int) (x2 : Int) : L4 xs0 xs1 x2 = bcase (decide (x2 < (↑xs0.length : Int))) (if (0 : Int) ≤ x2 ∧ x2 < (↑xs0.length : Int) then if (0 : Int) ≤ x2 ∧ x2 < (↑xs1.length : Int) then bcase (xs0.getD x2.toNat (0 : Int) != xs1.getD x2.toNat (0 : Int)) (some [D.s (S.sc (Value.bool false))]) (Same.L4 xs0 xs1 (IntKind.i64.wrap (x2 + (1 : Int)))) else none else none) (some [D.s (S.sc (Value.bool true))]) := (loopAt_J rfl nok 4 _).trans (by kernel_rfl)
-- stuck: 0
end Same
namespace Same
theorem L {a b : List Int} (hl : a.length = b.length) (h : a.length ≤ 4398046511104) : ∀ (d i : Nat), i + d = a.length → a.take i = b.take i → L4 a b (i : Int) = some [D.s (.sc (.bool (decide (a = b))))] := by
  intro d
  induction d with
  | zero =>
    intro i hd hv
    rw [List.take_of_length_le (by omega), List.take_of_length_le (by omega)] at hv
    rw [L4_eq, bD_neg (by omega), decide_eq_true hv]
  | succ d ih =>
    intro i hd hv
    rw [L4_eq, bD_pos (by omega), if_pos (by omega), if_pos (by omega), Int.toNat_natCast]
    have ga : a.getD i 0 = a[i]'(by omega) := by simp [List.getD_eq_getElem?_getD, show i < a.length by omega]
    have gb : b.getD i 0 = b[i]'(by omega) := by simp [List.getD_eq_getElem?_getD, show i < b.length by omega]
    by_cases hc : a.getD i 0 = b.getD i 0
    · rw [bN_neg hc, wrap_i64 (by omega) (by omega)]
      refine ih (i + 1) (by omega) ?_
      rw [List.take_succ_eq_append_getElem (by omega), List.take_succ_eq_append_getElem (by omega), hv, ← ga, ← gb, hc]
    · rw [bN_pos hc, decide_eq_false (fun h => hc (by rw [h]))]
noncomputable def sp (a b : List Int) : Prop × List D := (a.length ≤ 4398046511104 ∧ b.length ≤ 4398046511104, [.s (.sc (.bool (decide (a = b))))])
theorem spec (a b : List Int) (h : (sp a b).1) : evalFn E Tryz.f39 cod [(pI .u64).put a, (pI .u64).put b] = some (sp a b).2 := by
  obtain ⟨h1, h2⟩ := h
  refine (start a b).trans ?_
  by_cases hl : a.length = b.length
  · rw [bN_neg (by omega)]
    exact L hl h1 a.length 0 (by omega) rfl
  · rw [bN_pos (by omega)]
    unfold sp
    rw [decide_eq_false (fun h => hl (by rw [h]))]

noncomputable def orc : Orc := orc2 (pI .u64) (pI .u64) sp
theorem fnok : FnOk Tryz.prog E 39 Tryz.f39 cod := fnOk ty_ok mixed (callsOk_of _ rfl orcs_nil (ext_ok)) Tryz.func39 rfl rfl rfl
theorem ok : OrcOk Tryz.prog base.glob 39 orc := fnok.ok2 rfl spec
end Same
end Go.Proofs.YtfebndgmmekmgaaGreatDoor.W

/- gnomon/gnomonref05.Same -/
namespace Go.Proofs.YtfebndgmmekmgaaGreatDoor.W
open Go Go.Proofs.YtfebndgmmekmgaaGreatDoor.AI Go.Proofs.YtfebndgmmekmgaaGreatDoor.M
namespace Same5
noncomputable def E : Env := { ({ base with C := callsOf [(39, Same.orc)] }) with nt := 28, own := [26], keep := fun k => (tlook [] k).getD [], cut := tlook [] }
noncomputable def cod : Code := (Go.Proofs.Tryz.f11.body).getD .skip
theorem nok : namesOk E cod = true := by kernel_rfl
theorem start (a1 : Bool) (a2 : List Int) (a3 : Int) (b1 : Bool) (b2 : List Int) (b3 : Int) : evalFn E Go.Proofs.Tryz.f11 cod [D.agg [S.sc (Value.bool a1), S.ints IntKind.u64 a2, S.sc (Value.int IntKind.i64 a3)], D.agg [S.sc (Value.bool b1), S.ints IntKind.u64 b2, S.sc (Value.int IntKind.i64 b3)]] = bcase (a1 == b1) (bcase (a3 == b3) (gif (a2.length ≤ (4398046511104 : Nat) ∧ b2.length ≤ (4398046511104 : Nat)) (some [D.s (S.sc (Value.bool (decide (a2 = b2))))])) (some [D.s (S.sc (Value.bool false))])) (some [D.s (S.sc (Value.bool false))]) := (evalFn_J rfl nok _).trans (by kernel_rfl)
-- stuck: 0
end Same5
namespace Same5
noncomputable def sp (x y : Bool × List Int × Int) : Prop × List D := (DyOk x ∧ DyOk y, [.s (.sc (.bool (decide (dv x = dv y))))])
theorem same_iff {x y : Bool × List Int × Int} (hx : DyOk x) (hy : DyOk y) : dv x = dv y ↔ x = y := by
  constructor
  · intro h
    have e := congrArg M.dD h
    rw [hx.dD, hy.dD] at e
    obtain ⟨b, a, e1⟩ := x
    obtain ⟨c, d, f⟩ := y
    simp at e
    obtain ⟨h1, h2, h3⟩ := e
    rw [h1, h2, h3]
  · intro h; rw [h]
theorem spec (x y : Bool × List Int × Int) (h : (sp x y).1) : evalFn E Tryz.f11 cod [(pG (.pair sB (.pair (sI .u64) (sN .i64)))).put x, (pG (.pair sB (.pair (sI .u64) (sN .i64)))).put y] = some (sp x y).2 := by
  obtain ⟨hx, hy⟩ := h
  refine (start x.1 x.2.1 x.2.2 y.1 y.2.1 y.2.2).trans ?_
  have lx := hx.len
  have ly := hy.len
  have hs := same_iff hx hy
  show _ = some [D.s (.sc (.bool (decide (dv x = dv y))))]
  obtain ⟨b, a, e⟩ := x
  obtain ⟨c, d, f⟩ := y
  dsimp only at *
  by_cases h1 : b = c
  · subst h1
    rw [bB_pos (by simp)]
    by_cases h2 : e = f
    · rw [bE_pos h2, gP (by omega)]
      subst h2
      by_cases h3 : a = d
      · rw [decide_eq_true h3, decide_eq_true (hs.2 (by rw [h3]))]
      · rw [decide_eq_false h3, decide_eq_false (fun h => h3 (by have := hs.1 h; simpa using this))]
    · rw [bE_neg h2, decide_eq_false (fun h => h2 (by have := hs.1 h; simp at this; exact this.2))]
  · rw [bB_neg (by simpa using h1), decide_eq_false (fun h => h1 (by have := hs.1 h; simp at this; exact this.1))]

noncomputable def orc : Orc := orc2 (pG (.pair sB (.pair (sI .u64) (sN .i64)))) (pG (.pair sB (.pair (sI .u64) (sN .i64)))) sp
theorem fnok : FnOk Tryz.prog E 11 Tryz.f11 cod := fnOk ty_ok mixed (callsOk_of _ rfl (orcs_cons Same.ok orcs_nil) (ext_ok)) Tryz.func11 rfl rfl rfl
theorem ok : OrcOk Tryz.prog base.glob 11 orc := fnok.ok2 rfl spec
end Same5
end Go.Proofs.YtfebndgmmekmgaaGreatDoor.W

