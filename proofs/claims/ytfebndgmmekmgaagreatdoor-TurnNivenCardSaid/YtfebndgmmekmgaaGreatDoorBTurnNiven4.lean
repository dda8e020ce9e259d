/- Texts of the claim on TurnNiven, in their order: FUSigned, FUPattern, FUPlace, FUExact0, FUExact, FUPoint, FUEnclose, FSame, FSame5, FLSame, FNorm, FMk, FAdd, FWord, FZOf, FBit, FZeros, FDivSmall, FShr, FTo, FZTo, FTold5, FDocOf5, FLPoint, FLAwake, FLFinite, FLawNiven, Row0. -/
import Derived.WalkKit
import Derived.ProofKit
import Derived.OpenShut
import Derived.Carry
import Derived.LaidMore
import Derived.MakeChecks
import Derived.Test.YtfebndgmmekmgaaGreatDoorBTurnNiven3
/- gnomon/turn.signed -/
namespace Go.Proofs.YtfebndgmmekmgaaGreatDoor.W
open Go Go.Proofs.YtfebndgmmekmgaaGreatDoor.AI Go.Proofs.YtfebndgmmekmgaaGreatDoor.M
namespace USigned
noncomputable def E : Env := { (base) with nt := 14, own := [], keep := fun k => (tlook [] k).getD [], cut := tlook [] }
noncomputable def cod : Code := (Go.Proofs.Tryz.f93.body).getD .skip
theorem nok : namesOk E cod = true := by kernel_rfl
theorem start (a : Int) (b : Bool) (c : Int) : evalFn E Go.Proofs.Tryz.f93 cod [D.s (S.sc (Value.int IntKind.i64 a)), D.s (S.sc (Value.bool b)), D.s (S.sc (Value.int IntKind.u64 c))] = bcase b (if IntKind.i64.wrap (a - (1 : Int)) < (0 : Int) then none else some [D.s (S.sc (Value.int IntKind.u64 (bitsI BinOp.or IntKind.u64 c (IntKind.u64.wrap ((1 : Int) * (↑((2 : Nat) ^ min (IntKind.i64.wrap (a - (1 : Int))).toNat (64 : Nat)) : Int))))))]) (some [D.s (S.sc (Value.int IntKind.u64 c))]) := (evalFn_J rfl nok _).trans (by kernel_rfl)
-- stuck: 0
end USigned
namespace USigned
noncomputable def sp (f : Int) (b : Bool) (c : Int) : Prop × List D := ((f = 32 ∨ f = 64) ∧ 0 ≤ c ∧ c < BSign.signV (BShape.shp f), [.s (.sc (.int .u64 (BJoin.sgnd (BShape.shp f) b c)))])
theorem spec (f : Int) (b : Bool) (c : Int) (h : (sp f b c).1) : evalFn E Tryz.f93 cod [(pN .i64).put f, pB.put b, (pN .u64).put c] = some (sp f b c).2 := by
  obtain ⟨hf, h0, h1⟩ := h
  refine (start f b c).trans ?_
  have hs : BShape.Two (BShape.shp f) := BFinite.two_shp hf
  unfold sp
  dsimp only
  rw [← BJoin.or_sign hs h0 h1]
  cases b with
  | false => rfl
  | true => rcases hf with rfl | rfl <;> rfl

noncomputable def orc : Orc := orc3 (pN .i64) pB (pN .u64) sp
theorem fnok : FnOk Tryz.prog E 93 Tryz.f93 cod := fnOk ty_ok mixed (callsOk_of _ rfl orcs_nil (ext_ok)) Tryz.func93 rfl rfl rfl
theorem ok : OrcOk Tryz.prog base.glob 93 orc := fnok.ok3 rfl spec
end USigned
end Go.Proofs.YtfebndgmmekmgaaGreatDoor.W

/- gnomon/turn.pattern -/
namespace Go.Proofs.YtfebndgmmekmgaaGreatDoor.W
open Go Go.Proofs.YtfebndgmmekmgaaGreatDoor.AI Go.Proofs.YtfebndgmmekmgaaGreatDoor.M
namespace UPattern
noncomputable def E : Env := { ({ base with C := callsOf [(94, UInfinity.orc), (93, USigned.orc), (95, BJoin.orc)] }) with nt := 27, own := [15, 23], keep := fun k => (tlook [] k).getD [], cut := tlook [] }
noncomputable def cod : Code := (Go.Proofs.Tryz.f42.body).getD .skip
theorem nok : namesOk E cod = true := by kernel_rfl
theorem start (a : Int) (b1 : Int) (b2 : Bool) : evalFn E Go.Proofs.Tryz.f42 cod [D.s (S.sc (Value.int IntKind.i64 a)), D.agg [S.sc (Value.int IntKind.i64 b1), S.sc (Value.bool b2)]] = bcase (b1 == (2 : Int)) (gif (a = (32 : Int) ∨ a = (64 : Int)) (gif ((a = (32 : Int) ∨ a = (64 : Int)) ∧ (0 : Int) ≤ BInf.infV (BShape.shp a) ∧ BInf.infV (BShape.shp a) < BSign.signV (BShape.shp a)) (some [D.s (S.sc (Value.int IntKind.u64 (BJoin.sgnd (BShape.shp a) b2 (BInf.infV (BShape.shp a)))))]))) (gif ((a = (32 : Int) ∨ a = (64 : Int)) ∧ ((0 : Int) ≤ IntKind.u64.wrap b1 ∧ IntKind.u64.wrap b1 < (18446744073709551616 : Int)) ∧ (-4000 : Int) ≤ (0 : Int) ∧ (0 : Int) ≤ (2900 : Int)) (some [D.s (S.sc (Value.int IntKind.u64 (BJoin.valJ (BShape.shp a) b2 (BJoin.joinO (BShape.shp a) (IntKind.u64.wrap b1) (0 : Int)))))])) := (evalFn_J rfl nok _).trans (by kernel_rfl)
-- stuck: 0
end UPattern
namespace UPattern
/-- The pattern of an exact value. -/
def patV (f : Int) (s : Int) (n : Bool) : Int := BJoin.sgnd (BShape.shp f) n (if s = 2 then BInf.infV (BShape.shp f) else if s = 1 then (if f = 32 then 1065353216 else 4607182418800017408) else 0)
noncomputable def sp (f : Int) (v : Int × Bool) : Prop × List D := ((f = 32 ∨ f = 64) ∧ (v.1 = 0 ∨ v.1 = 1 ∨ v.1 = 2), [.s (.sc (.int .u64 (patV f v.1 v.2)))])
theorem one_join : BJoin.joinO (BShape.shp 64) 1 0 = some 4607182418800017408 ∧ BJoin.joinO (BShape.shp 32) 1 0 = some 1065353216 := by
  have b1 : bl 1 = 1 := rfl
  have t1 : tz (1 : Int).toNat = 0 := tz_odd rfl
  unfold BJoin.joinO BJoin.joinS BJoin.sizeJ BJoin.upJ
  rw [t1]
  exact ⟨rfl, rfl⟩
theorem spec (f : Int) (v : Int × Bool) (h : (sp f v).1) : evalFn E Tryz.f42 cod [(pN .i64).put f, (pG (.pair (sN .i64) sB)).put v] = some (sp f v).2 := by
  obtain ⟨hf, hv⟩ := h
  obtain ⟨s, n⟩ := v
  refine (start f s n).trans ?_
  unfold sp patV
  dsimp only at *
  have hi : 0 ≤ BInf.infV (BShape.shp f) ∧ BInf.infV (BShape.shp f) < BSign.signV (BShape.shp f) := by
    rcases hf with rfl | rfl
    · exact ⟨by show (0 : Int) ≤ 2139095040; omega, by show (2139095040 : Int) < 2147483648; omega⟩
    · exact ⟨by show (0 : Int) ≤ 9218868437227405312; omega, by show (9218868437227405312 : Int) < 9223372036854775808; omega⟩
  rcases hv with rfl | rfl | rfl
  · rw [bE_neg (by omega), show IntKind.u64.wrap 0 = 0 from rfl, gP ⟨hf, by omega, by omega⟩]
    rfl
  · rw [bE_neg (by omega), show IntKind.u64.wrap 1 = 1 from rfl, gP ⟨hf, by omega, by omega⟩]
    rcases hf with rfl | rfl
    · rw [one_join.2]; rfl
    · rw [one_join.1]; rfl
  · rw [bE_pos rfl, gP hf, gP ⟨hf, hi⟩]
    rfl

noncomputable def orc : Orc := orc2 (pN .i64) (pG (.pair (sN .i64) sB)) sp
theorem fnok : FnOk Tryz.prog E 42 Tryz.f42 cod := fnOk ty_ok mixed (callsOk_of _ rfl (orcs_cons UInfinity.ok (orcs_cons USigned.ok (orcs_cons BJoin.ok orcs_nil))) (ext_ok)) Tryz.func42 rfl rfl rfl
theorem ok : OrcOk Tryz.prog base.glob 42 orc := fnok.ok2 rfl spec
end UPattern
end Go.Proofs.YtfebndgmmekmgaaGreatDoor.W

/- gnomon/turn.place -/
namespace Go.Proofs.YtfebndgmmekmgaaGreatDoor.W
open Go Go.Proofs.YtfebndgmmekmgaaGreatDoor.AI Go.Proofs.YtfebndgmmekmgaaGreatDoor.M
namespace UPlace
noncomputable def E : Env := { (base) with nt := 19, own := [], keep := fun k => (tlook [] k).getD [], cut := tlook [] }
noncomputable def cod : Code := (Go.Proofs.Tryz.f96.body).getD .skip
theorem nok : namesOk E cod = true := by kernel_rfl
theorem start (a1 : Bool) (a2 : List Int) (a3 : Int) : evalFn E Go.Proofs.Tryz.f96 cod [D.agg [S.sc (Value.bool a1), S.ints IntKind.u64 a2, S.sc (Value.int IntKind.i64 a3)]] = bcase (decide ((0 : Int) < a3)) (some [D.s (S.sc (Value.int IntKind.i64 (1 : Int)))]) (bcase (a3 == (0 : Int)) (some [D.s (S.sc (Value.int IntKind.i64 (2 : Int)))]) (bcase (a3 == (-1 : Int)) (some [D.s (S.sc (Value.int IntKind.i64 (3 : Int)))]) (bcase (a3 == (-2 : Int)) (some [D.s (S.sc (Value.int IntKind.i64 (4 : Int)))]) (some [D.s (S.sc (Value.int IntKind.i64 (0 : Int)))])))) := (evalFn_J rfl nok _).trans (by kernel_rfl)
-- stuck: 0
end UPlace
namespace UPlace
/-- Where on the quarter turns a number lies, by its exponent. -/
def placeV (e : Int) : Int := if 0 < e then 1 else if e = 0 then 2 else if e = -1 then 3 else if e = -2 then 4 else 0
noncomputable def sp (x : Bool × List Int × Int) : Prop × List D := (True, [.s (.sc (.int .i64 (placeV x.2.2)))])
theorem spec (x : Bool × List Int × Int) (h : (sp x).1) : evalFn E Tryz.f96 cod [(pG (.pair sB (.pair (sI .u64) (sN .i64)))).put x] = some (sp x).2 := by
  refine (start x.1 x.2.1 x.2.2).trans ?_
  unfold sp placeV
  dsimp only
  by_cases h1 : 0 < x.2.2
  · rw [bD_pos h1, if_pos h1]
  · rw [bD_neg h1, if_neg h1]
    by_cases h2 : x.2.2 = 0
    · rw [bE_pos h2, if_pos h2]
    · rw [bE_neg h2, if_neg h2]
      by_cases h3 : x.2.2 = -1
      · rw [bE_pos h3, if_pos h3]
      · rw [bE_neg h3, if_neg h3]
        by_cases h4 : x.2.2 = -2
        · rw [bE_pos h4, if_pos h4]
        · rw [bE_neg h4, if_neg h4]

noncomputable def orc : Orc := orc1 (pG (.pair sB (.pair (sI .u64) (sN .i64)))) sp
theorem fnok : FnOk Tryz.prog E 96 Tryz.f96 cod := fnOk ty_ok mixed (callsOk_of _ rfl orcs_nil (ext_ok)) Tryz.func96 rfl rfl rfl
theorem ok : OrcOk Tryz.prog base.glob 96 orc := fnok.ok1 rfl spec
end UPlace
end Go.Proofs.YtfebndgmmekmgaaGreatDoor.W

/- gnomon/turn.exact -/
namespace Go.Proofs.YtfebndgmmekmgaaGreatDoor.W
open Go Go.Proofs.YtfebndgmmekmgaaGreatDoor.AI Go.Proofs.YtfebndgmmekmgaaGreatDoor.M
namespace UExact0
noncomputable def E : Env := { ({ base with C := callsOf [(96, UPlace.orc), (34, UMod4.orc)] }) with nt := 97, own := [], keep := fun k => (tlook [] k).getD [], cut := tlook [] }
noncomputable def cod : Code := (Go.Proofs.Tryz.f43.body).getD .skip
theorem nok : namesOk E cod = true := by kernel_rfl
theorem start (a : Int) (b1 : Bool) (b2 : List Int) (b3 : Int) : evalFn E Go.Proofs.Tryz.f43 cod [D.s (S.sc (Value.int IntKind.i64 a)), D.agg [S.sc (Value.bool b1), S.ints IntKind.u64 b2, S.sc (Value.int IntKind.i64 b3)]] = gif True
  (gif (Wok (b1, b2))
    (bcase (a == (4 : Int))
      (bcase (UPlace.placeV (b2, b3).snd == (1 : Int)) (some [D.agg [S.sc (Value.int IntKind.i64 (0 : Int)), S.sc (Value.bool b1)], D.s (S.sc (Value.bool true))])
        (bcase (UPlace.placeV (b2, b3).snd == (2 : Int)) (some [D.agg [S.sc (Value.int IntKind.i64 (0 : Int)), S.sc (Value.bool b1)], D.s (S.sc (Value.bool true))])
          (bcase (a == (4 : Int))
            (bcase (UPlace.placeV (b2, b3).snd == (3 : Int)) (some [D.agg [S.sc (Value.int IntKind.i64 (1 : Int)), S.sc (Value.bool (wv (b1, b2) % (4 : Int) == (3 : Int)))], D.s (S.sc (Value.bool true))])
              (bcase (a == (5 : Int))
                (bcase (UPlace.placeV (b2, b3).snd == (1 : Int)) (some [D.agg [S.sc (Value.int IntKind.i64 (1 : Int)), S.sc (Value.bool (UPlace.placeV (b2, b3).snd == (2 : Int)))], D.s (S.sc (Value.bool true))])
                  (bcase (UPlace.placeV (b2, b3).snd == (2 : Int)) (some [D.agg [S.sc (Value.int IntKind.i64 (1 : Int)), S.sc (Value.bool (UPlace.placeV (b2, b3).snd == (2 : Int)))], D.s (S.sc (Value.bool true))])
                    (bcase (a == (5 : Int)) (bcase (UPlace.placeV (b2, b3).snd == (3 : Int)) (some [D.agg [S.sc (Value.int IntKind.i64 (0 : Int)), S.sc (Value.bool false)], D.s (S.sc (Value.bool true))]) (bcase (a == (6 : Int)) (bcase (UPlace.placeV (b2, b3).snd == (1 : Int)) (some [D.agg [S.sc (Value.int IntKind.i64 (0 : Int)), S.sc (Value.bool (b1 != (UPlace.placeV (b2, b3).snd == (2 : Int))))], D.s (S.sc (Value.bool true))]) (bcase (UPlace.placeV (b2, b3).snd == (2 : Int)) (some [D.agg [S.sc (Value.int IntKind.i64 (0 : Int)), S.sc (Value.bool (b1 != (UPlace.placeV (b2, b3).snd == (2 : Int))))], D.s (S.sc (Value.bool true))]) (bcase (a == (6 : Int)) (bcase (UPlace.placeV (b2, b3).snd == (3 : Int)) (some [D.agg [S.sc (Value.int IntKind.i64 (2 : Int)), S.sc (Value.bool (wv (b1, b2) % (4 : Int) == (3 : Int)))], D.s (S.sc (Value.bool true))]) (bcase (a == (6 : Int)) (bcase (UPlace.placeV (b2, b3).snd == (4 : Int)) (some [D.agg [S.sc (Value.int IntKind.i64 (1 : Int)), S.sc (Value.bool (wv (b1, b2) % (4 : Int) == (3 : Int)))], D.s (S.sc (Value.bool true))]) (some [D.agg [S.sc (Value.int IntKind.i64 (0 : Int)), S.sc (Value.bool false)], D.s (S.sc (Value.bool false))])) (some [D.agg [S.sc (Value.int IntKind.i64 (0 : Int)), S.sc (Value.bool false)], D.s (S.sc (Value.bool false))]))) (bcase (a == (6 : Int)) (bcase (UPlace.placeV (b2, b3).snd == (4 : Int)) (some [D.agg [S.sc (Value.int IntKind.i64 (1 : Int)), S.sc (Value.bool (wv (b1, b2) % (4 : Int) == (3 : Int)))], D.s (S.sc (Value.bool true))]) (some [D.agg [S.sc (Value.int IntKind.i64 (0 : Int)), S.sc (Value.bool false)], D.s (S.sc (Value.bool false))])) (some [D.agg [S.sc (Value.int IntKind.i64 (0 : Int)), S.sc (Value.bool false)], D.s (S.sc (Value.bool false))]))))) (bcase (a == (6 : Int)) (bcase (UPlace.placeV (b2, b3).snd == (3 : Int)) (some [D.agg [S.sc (Value.int IntKind.i64 (2 : Int)), S.sc (Value.bool (wv (b1, b2) % (4 : Int) == (3 : Int)))], D.s (S.sc (Value.bool true))]) (bcase (a == (6 : Int)) (bcase (UPlace.placeV (b2, b3).snd == (4 : Int)) (some [D.agg [S.sc (Value.int IntKind.i64 (1 : Int)), S.sc (Value.bool (wv (b1, b2) % (4 : Int) == (3 : Int)))], D.s (S.sc (Value.bool true))]) (some [D.agg [S.sc (Value.int IntKind.i64 (0 : Int)), S.sc (Value.bool false)], D.s (S.sc (Value.bool false))])) (some [D.agg [S.sc (Value.int IntKind.i64 (0 : Int)), S.sc (Value.bool false)], D.s (S.sc (Value.bool false))]))) (bcase (a == (6 : Int)) (bcase (UPlace.placeV (b2, b3).snd == (4 : Int)) (some [D.agg [S.sc (Value.int IntKind.i64 (1 : Int)), S.sc (Value.bool (wv (b1, b2) % (4 : Int) == (3 : Int)))], D.s (S.sc (Value.bool true))]) (some [D.agg [S.sc (Value.int IntKind.i64 (0 : Int)), S.sc (Value.bool false)], D.s (S.sc (Value.bool false))])) (some [D.agg [S.sc (Value.int IntKind.i64 (0 : Int)), S.sc (Value.bool false)], D.s (S.sc (Value.bool false))])))))
                      (bcase (a == (6 : Int)) (bcase (UPlace.placeV (b2, b3).snd == (1 : Int)) (some [D.agg [S.sc (Value.int IntKind.i64 (0 : Int)), S.sc (Value.bool (b1 != (UPlace.placeV (b2, b3).snd == (2 : Int))))], D.s (S.sc (Value.bool true))]) (bcase (UPlace.placeV (b2, b3).snd == (2 : Int)) (some [D.agg [S.sc (Value.int IntKind.i64 (0 : Int)), S.sc (Value.bool (b1 != (UPlace.placeV (b2, b3).snd == (2 : Int))))], D.s (S.sc (Value.bool true))]) (bcase (a == (6 : Int)) (bcase (UPlace.placeV (b2, b3).snd == (3 : Int)) (some [D.agg [S.sc (Value.int IntKind.i64 (2 : Int)), S.sc (Value.bool (wv (b1, b2) % (4 : Int) == (3 : Int)))], D.s (S.sc (Value.bool true))]) (bcase (a == (6 : Int)) (bcase (UPlace.placeV (b2, b3).snd == (4 : Int)) (some [D.agg [S.sc (Value.int IntKind.i64 (1 : Int)), S.sc (Value.bool (wv (b1, b2) % (4 : Int) == (3 : Int)))], D.s (S.sc (Value.bool true))]) (some [D.agg [S.sc (Value.int IntKind.i64 (0 : Int)), S.sc (Value.bool false)], D.s (S.sc (Value.bool false))])) (some [D.agg [S.sc (Value.int IntKind.i64 (0 : Int)), S.sc (Value.bool false)], D.s (S.sc (Value.bool false))]))) (bcase (a == (6 : Int)) (bcase (UPlace.placeV (b2, b3).snd == (4 : Int)) (some [D.agg [S.sc (Value.int IntKind.i64 (1 : Int)), S.sc (Value.bool (wv (b1, b2) % (4 : Int) == (3 : Int)))], D.s (S.sc (Value.bool true))]) (some [D.agg [S.sc (Value.int IntKind.i64 (0 : Int)), S.sc (Value.bool false)], D.s (S.sc (Value.bool false))])) (some [D.agg [S.sc (Value.int IntKind.i64 (0 : Int)), S.sc (Value.bool false)], D.s (S.sc (Value.bool false))]))))) (bcase (a == (6 : Int)) (bcase (UPlace.placeV (b2, b3).snd == (3 : Int)) (some [D.agg [S.sc (Value.int IntKind.i64 (2 : Int)), S.sc (Value.bool (wv (b1, b2) % (4 : Int) == (3 : Int)))], D.s (S.sc (Value.bool true))]) (bcase (a == (6 : Int)) (bcase (UPlace.placeV (b2, b3).snd == (4 : Int)) (some [D.agg [S.sc (Value.int IntKind.i64 (1 : Int)), S.sc (Value.bool (wv (b1, b2) % (4 : Int) == (3 : Int)))], D.s (S.sc (Value.bool true))]) (some [D.agg [S.sc (Value.int IntKind.i64 (0 : Int)), S.sc (Value.bool false)], D.s (S.sc (Value.bool false))])) (some [D.agg [S.sc (Value.int IntKind.i64 (0 : Int)), S.sc (Value.bool false)], D.s (S.sc (Value.bool false))]))) (bcase (a == (6 : Int)) (bcase (UPlace.placeV (b2, b3).snd == (4 : Int)) (some [D.agg [S.sc (Value.int IntKind.i64 (1 : Int)), S.sc (Value.bool (wv (b1, b2) % (4 : Int) == (3 : Int)))], D.s (S.sc (Value.bool true))]) (some [D.agg [S.sc (Value.int IntKind.i64 (0 : Int)), S.sc (Value.bool false)], D.s (S.sc (Value.bool false))])) (some [D.agg [S.sc (Value.int IntKind.i64 (0 : Int)), S.sc (Value.bool false)], D.s (S.sc (Value.bool false))])))))))
                (bcase (a == (5 : Int)) (bcase (UPlace.placeV (b2, b3).snd == (3 : Int)) (some [D.agg [S.sc (Value.int IntKind.i64 (0 : Int)), S.sc (Value.bool false)], D.s (S.sc (Value.bool true))]) (bcase (a == (6 : Int)) (bcase (UPlace.placeV (b2, b3).snd == (1 : Int)) (some [D.agg [S.sc (Value.int IntKind.i64 (0 : Int)), S.sc (Value.bool (b1 != (UPlace.placeV (b2, b3).snd == (2 : Int))))], D.s (S.sc (Value.bool true))]) (bcase (UPlace.placeV (b2, b3).snd == (2 : Int)) (some [D.agg [S.sc (Value.int IntKind.i64 (0 : Int)), S.sc (Value.bool (b1 != (UPlace.placeV (b2, b3).snd == (2 : Int))))], D.s (S.sc (Value.bool true))]) (bcase (a == (6 : Int)) (bcase (UPlace.placeV (b2, b3).snd == (3 : Int)) (some [D.agg [S.sc (Value.int IntKind.i64 (2 : Int)), S.sc (Value.bool (wv (b1, b2) % (4 : Int) == (3 : Int)))], D.s (S.sc (Value.bool true))]) (bcase (a == (6 : Int)) (bcase (UPlace.placeV (b2, b3).snd == (4 : Int)) (some [D.agg [S.sc (Value.int IntKind.i64 (1 : Int)), S.sc (Value.bool (wv (b1, b2) % (4 : Int) == (3 : Int)))], D.s (S.sc (Value.bool true))]) (some [D.agg [S.sc (Value.int IntKind.i64 (0 : Int)), S.sc (Value.bool false)], D.s (S.sc (Value.bool false))])) (some [D.agg [S.sc (Value.int IntKind.i64 (0 : Int)), S.sc (Value.bool false)], D.s (S.sc (Value.bool false))]))) (bcase (a == (6 : Int)) (bcase (UPlace.placeV (b2, b3).snd == (4 : Int)) (some [D.agg [S.sc (Value.int IntKind.i64 (1 : Int)), S.sc (Value.bool (wv (b1, b2) % (4 : Int) == (3 : Int)))], D.s (S.sc (Value.bool true))]) (some [D.agg [S.sc (Value.int IntKind.i64 (0 : Int)), S.sc (Value.bool false)], D.s (S.sc (Value.bool false))])) (some [D.agg [S.sc (Value.int IntKind.i64 (0 : Int)), S.sc (Value.bool false)], D.s (S.sc (Value.bool false))]))))) (bcase (a == (6 : Int)) (bcase (UPlace.placeV (b2, b3).snd == (3 : Int)) (some [D.agg [S.sc (Value.int IntKind.i64 (2 : Int)), S.sc (Value.bool (wv (b1, b2) % (4 : Int) == (3 : Int)))], D.s (S.sc (Value.bool true))]) (bcase (a == (6 : Int)) (bcase (UPlace.placeV (b2, b3).snd == (4 : Int)) (some [D.agg [S.sc (Value.int IntKind.i64 (1 : Int)), S.sc (Value.bool (wv (b1, b2) % (4 : Int) == (3 : Int)))], D.s (S.sc (Value.bool true))]) (some [D.agg [S.sc (Value.int IntKind.i64 (0 : Int)), S.sc (Value.bool false)], D.s (S.sc (Value.bool false))])) (some [D.agg [S.sc (Value.int IntKind.i64 (0 : Int)), S.sc (Value.bool false)], D.s (S.sc (Value.bool false))]))) (bcase (a == (6 : Int)) (bcase (UPlace.placeV (b2, b3).snd == (4 : Int)) (some [D.agg [S.sc (Value.int IntKind.i64 (1 : Int)), S.sc (Value.bool (wv (b1, b2) % (4 : Int) == (3 : Int)))], D.s (S.sc (Value.bool true))]) (some [D.agg [S.sc (Value.int IntKind.i64 (0 : Int)), S.sc (Value.bool false)], D.s (S.sc (Value.bool false))])) (some [D.agg [S.sc (Value.int IntKind.i64 (0 : Int)), S.sc (Value.bool false)], D.s (S.sc (Value.bool false))])))))
                  (bcase (a == (6 : Int)) (bcase (UPlace.placeV (b2, b3).snd == (1 : Int)) (some [D.agg [S.sc (Value.int IntKind.i64 (0 : Int)), S.sc (Value.bool (b1 != (UPlace.placeV (b2, b3).snd == (2 : Int))))], D.s (S.sc (Value.bool true))]) (bcase (UPlace.placeV (b2, b3).snd == (2 : Int)) (some [D.agg [S.sc (Value.int IntKind.i64 (0 : Int)), S.sc (Value.bool (b1 != (UPlace.placeV (b2, b3).snd == (2 : Int))))], D.s (S.sc (Value.bool true))]) (bcase (a == (6 : Int)) (bcase (UPlace.placeV (b2, b3).snd == (3 : Int)) (some [D.agg [S.sc (Value.int IntKind.i64 (2 : Int)), S.sc (Value.bool (wv (b1, b2) % (4 : Int) == (3 : Int)))], D.s (S.sc (Value.bool true))]) (bcase (a == (6 : Int)) (bcase (UPlace.placeV (b2, b3).snd == (4 : Int)) (some [D.agg [S.sc (Value.int IntKind.i64 (1 : Int)), S.sc (Value.bool (wv (b1, b2) % (4 : Int) == (3 : Int)))], D.s (S.sc (Value.bool true))]) (some [D.agg [S.sc (Value.int IntKind.i64 (0 : Int)), S.sc (Value.bool false)], D.s (S.sc (Value.bool false))])) (some [D.agg [S.sc (Value.int IntKind.i64 (0 : Int)), S.sc (Value.bool false)], D.s (S.sc (Value.bool false))]))) (bcase (a == (6 : Int)) (bcase (UPlace.placeV (b2, b3).snd == (4 : Int)) (some [D.agg [S.sc (Value.int IntKind.i64 (1 : Int)), S.sc (Value.bool (wv (b1, b2) % (4 : Int) == (3 : Int)))], D.s (S.sc (Value.bool true))]) (some [D.agg [S.sc (Value.int IntKind.i64 (0 : Int)), S.sc (Value.bool false)], D.s (S.sc (Value.bool false))])) (some [D.agg [S.sc (Value.int IntKind.i64 (0 : Int)), S.sc (Value.bool false)], D.s (S.sc (Value.bool false))]))))) (bcase (a == (6 : Int)) (bcase (UPlace.placeV (b2, b3).snd == (3 : Int)) (some [D.agg [S.sc (Value.int IntKind.i64 (2 : Int)), S.sc (Value.bool (wv (b1, b2) % (4 : Int) == (3 : Int)))], D.s (S.sc (Value.bool true))]) (bcase (a == (6 : Int)) (bcase (UPlace.placeV (b2, b3).snd == (4 : Int)) (some [D.agg [S.sc (Value.int IntKind.i64 (1 : Int)), S.sc (Value.bool (wv (b1, b2) % (4 : Int) == (3 : Int)))], D.s (S.sc (Value.bool true))]) (some [D.agg [S.sc (Value.int IntKind.i64 (0 : Int)), S.sc (Value.bool false)], D.s (S.sc (Value.bool false))])) (some [D.agg [S.sc (Value.int IntKind.i64 (0 : Int)), S.sc (Value.bool false)], D.s (S.sc (Value.bool false))]))) (bcase (a == (6 : Int)) (bcase (UPlace.placeV (b2, b3).snd == (4 : Int)) (some [D.agg [S.sc (Value.int IntKind.i64 (1 : Int)), S.sc (Value.bool (wv (b1, b2) % (4 : Int) == (3 : Int)))], D.s (S.sc (Value.bool true))]) (some [D.agg [S.sc (Value.int IntKind.i64 (0 : Int)), S.sc (Value.bool false)], D.s (S.sc (Value.bool false))])) (some [D.agg [S.sc (Value.int IntKind.i64 (0 : Int)), S.sc (Value.bool false)], D.s (S.sc (Value.bool false))])))))))
            (bcase (a == (5 : Int))
              (bcase (UPlace.placeV (b2, b3).snd == (1 : Int)) (some [D.agg [S.sc (Value.int IntKind.i64 (1 : Int)), S.sc (Value.bool (UPlace.placeV (b2, b3).snd == (2 : Int)))], D.s (S.sc (Value.bool true))])
                (bcase (UPlace.placeV (b2, b3).snd == (2 : Int)) (some [D.agg [S.sc (Value.int IntKind.i64 (1 : Int)), S.sc (Value.bool (UPlace.placeV (b2, b3).snd == (2 : Int)))], D.s (S.sc (Value.bool true))])
                  (bcase (a == (5 : Int)) (bcase (UPlace.placeV (b2, b3).snd == (3 : Int)) (some [D.agg [S.sc (Value.int IntKind.i64 (0 : Int)), S.sc (Value.bool false)], D.s (S.sc (Value.bool true))]) (bcase (a == (6 : Int)) (bcase (UPlace.placeV (b2, b3).snd == (1 : Int)) (some [D.agg [S.sc (Value.int IntKind.i64 (0 : Int)), S.sc (Value.bool (b1 != (UPlace.placeV (b2, b3).snd == (2 : Int))))], D.s (S.sc (Value.bool true))]) (bcase (UPlace.placeV (b2, b3).snd == (2 : Int)) (some [D.agg [S.sc (Value.int IntKind.i64 (0 : Int)), S.sc (Value.bool (b1 != (UPlace.placeV (b2, b3).snd == (2 : Int))))], D.s (S.sc (Value.bool true))]) (bcase (a == (6 : Int)) (bcase (UPlace.placeV (b2, b3).snd == (3 : Int)) (some [D.agg [S.sc (Value.int IntKind.i64 (2 : Int)), S.sc (Value.bool (wv (b1, b2) % (4 : Int) == (3 : Int)))], D.s (S.sc (Value.bool true))]) (bcase (a == (6 : Int)) (bcase (UPlace.placeV (b2, b3).snd == (4 : Int)) (some [D.agg [S.sc (Value.int IntKind.i64 (1 : Int)), S.sc (Value.bool (wv (b1, b2) % (4 : Int) == (3 : Int)))], D.s (S.sc (Value.bool true))]) (some [D.agg [S.sc (Value.int IntKind.i64 (0 : Int)), S.sc (Value.bool false)], D.s (S.sc (Value.bool false))])) (some [D.agg [S.sc (Value.int IntKind.i64 (0 : Int)), S.sc (Value.bool false)], D.s (S.sc (Value.bool false))]))) (bcase (a == (6 : Int)) (bcase (UPlace.placeV (b2, b3).snd == (4 : Int)) (some [D.agg [S.sc (Value.int IntKind.i64 (1 : Int)), S.sc (Value.bool (wv (b1, b2) % (4 : Int) == (3 : Int)))], D.s (S.sc (Value.bool true))]) (some [D.agg [S.sc (Value.int IntKind.i64 (0 : Int)), S.sc (Value.bool false)], D.s (S.sc (Value.bool false))])) (some [D.agg [S.sc (Value.int IntKind.i64 (0 : Int)), S.sc (Value.bool false)], D.s (S.sc (Value.bool false))]))))) (bcase (a == (6 : Int)) (bcase (UPlace.placeV (b2, b3).snd == (3 : Int)) (some [D.agg [S.sc (Value.int IntKind.i64 (2 : Int)), S.sc (Value.bool (wv (b1, b2) % (4 : Int) == (3 : Int)))], D.s (S.sc (Value.bool true))]) (bcase (a == (6 : Int)) (bcase (UPlace.placeV (b2, b3).snd == (4 : Int)) (some [D.agg [S.sc (Value.int IntKind.i64 (1 : Int)), S.sc (Value.bool (wv (b1, b2) % (4 : Int) == (3 : Int)))], D.s (S.sc (Value.bool true))]) (some [D.agg [S.sc (Value.int IntKind.i64 (0 : Int)), S.sc (Value.bool false)], D.s (S.sc (Value.bool false))])) (some [D.agg [S.sc (Value.int IntKind.i64 (0 : Int)), S.sc (Value.bool false)], D.s (S.sc (Value.bool false))]))) (bcase (a == (6 : Int)) (bcase (UPlace.placeV (b2, b3).snd == (4 : Int)) (some [D.agg [S.sc (Value.int IntKind.i64 (1 : Int)), S.sc (Value.bool (wv (b1, b2) % (4 : Int) == (3 : Int)))], D.s (S.sc (Value.bool true))]) (some [D.agg [S.sc (Value.int IntKind.i64 (0 : Int)), S.sc (Value.bool false)], D.s (S.sc (Value.bool false))])) (some [D.agg [S.sc (Value.int IntKind.i64 (0 : Int)), S.sc (Value.bool false)], D.s (S.sc (Value.bool false))])))))
                    (bcase (a == (6 : Int)) (bcase (UPlace.placeV (b2, b3).snd == (1 : Int)) (some [D.agg [S.sc (Value.int IntKind.i64 (0 : Int)), S.sc (Value.bool (b1 != (UPlace.placeV (b2, b3).snd == (2 : Int))))], D.s (S.sc (Value.bool true))]) (bcase (UPlace.placeV (b2, b3).snd == (2 : Int)) (some [D.agg [S.sc (Value.int IntKind.i64 (0 : Int)), S.sc (Value.bool (b1 != (UPlace.placeV (b2, b3).snd == (2 : Int))))], D.s (S.sc (Value.bool true))]) (bcase (a == (6 : Int)) (bcase (UPlace.placeV (b2, b3).snd == (3 : Int)) (some [D.agg [S.sc (Value.int IntKind.i64 (2 : Int)), S.sc (Value.bool (wv (b1, b2) % (4 : Int) == (3 : Int)))], D.s (S.sc (Value.bool true))]) (bcase (a == (6 : Int)) (bcase (UPlace.placeV (b2, b3).snd == (4 : Int)) (some [D.agg [S.sc (Value.int IntKind.i64 (1 : Int)), S.sc (Value.bool (wv (b1, b2) % (4 : Int) == (3 : Int)))], D.s (S.sc (Value.bool true))]) (some [D.agg [S.sc (Value.int IntKind.i64 (0 : Int)), S.sc (Value.bool false)], D.s (S.sc (Value.bool false))])) (some [D.agg [S.sc (Value.int IntKind.i64 (0 : Int)), S.sc (Value.bool false)], D.s (S.sc (Value.bool false))]))) (bcase (a == (6 : Int)) (bcase (UPlace.placeV (b2, b3).snd == (4 : Int)) (some [D.agg [S.sc (Value.int IntKind.i64 (1 : Int)), S.sc (Value.bool (wv (b1, b2) % (4 : Int) == (3 : Int)))], D.s (S.sc (Value.bool true))]) (some [D.agg [S.sc (Value.int IntKind.i64 (0 : Int)), S.sc (Value.bool false)], D.s (S.sc (Value.bool false))])) (some [D.agg [S.sc (Value.int IntKind.i64 (0 : Int)), S.sc (Value.bool false)], D.s (S.sc (Value.bool false))]))))) (bcase (a == (6 : Int)) (bcase (UPlace.placeV (b2, b3).snd == (3 : Int)) (some [D.agg [S.sc (Value.int IntKind.i64 (2 : Int)), S.sc (Value.bool (wv (b1, b2) % (4 : Int) == (3 : Int)))], D.s (S.sc (Value.bool true))]) (bcase (a == (6 : Int)) (bcase (UPlace.placeV (b2, b3).snd == (4 : Int)) (some [D.agg [S.sc (Value.int IntKind.i64 (1 : Int)), S.sc (Value.bool (wv (b1, b2) % (4 : Int) == (3 : Int)))], D.s (S.sc (Value.bool true))]) (some [D.agg [S.sc (Value.int IntKind.i64 (0 : Int)), S.sc (Value.bool false)], D.s (S.sc (Value.bool false))])) (some [D.agg [S.sc (Value.int IntKind.i64 (0 : Int)), S.sc (Value.bool false)], D.s (S.sc (Value.bool false))]))) (bcase (a == (6 : Int)) (bcase (UPlace.placeV (b2, b3).snd == (4 : Int)) (some [D.agg [S.sc (Value.int IntKind.i64 (1 : Int)), S.sc (Value.bool (wv (b1, b2) % (4 : Int) == (3 : Int)))], D.s (S.sc (Value.bool true))]) (some [D.agg [S.sc (Value.int IntKind.i64 (0 : Int)), S.sc (Value.bool false)], D.s (S.sc (Value.bool false))])) (some [D.agg [S.sc (Value.int IntKind.i64 (0 : Int)), S.sc (Value.bool false)], D.s (S.sc (Value.bool false))])))))))
              (bcase (a == (5 : Int)) (bcase (UPlace.placeV (b2, b3).snd == (3 : Int)) (some [D.agg [S.sc (Value.int IntKind.i64 (0 : Int)), S.sc (Value.bool false)], D.s (S.sc (Value.bool true))]) (bcase (a == (6 : Int)) (bcase (UPlace.placeV (b2, b3).snd == (1 : Int)) (some [D.agg [S.sc (Value.int IntKind.i64 (0 : Int)), S.sc (Value.bool (b1 != (UPlace.placeV (b2, b3).snd == (2 : Int))))], D.s (S.sc (Value.bool true))]) (bcase (UPlace.placeV (b2, b3).snd == (2 : Int)) (some [D.agg [S.sc (Value.int IntKind.i64 (0 : Int)), S.sc (Value.bool (b1 != (UPlace.placeV (b2, b3).snd == (2 : Int))))], D.s (S.sc (Value.bool true))]) (bcase (a == (6 : Int)) (bcase (UPlace.placeV (b2, b3).snd == (3 : Int)) (some [D.agg [S.sc (Value.int IntKind.i64 (2 : Int)), S.sc (Value.bool (wv (b1, b2) % (4 : Int) == (3 : Int)))], D.s (S.sc (Value.bool true))]) (bcase (a == (6 : Int)) (bcase (UPlace.placeV (b2, b3).snd == (4 : Int)) (some [D.agg [S.sc (Value.int IntKind.i64 (1 : Int)), S.sc (Value.bool (wv (b1, b2) % (4 : Int) == (3 : Int)))], D.s (S.sc (Value.bool true))]) (some [D.agg [S.sc (Value.int IntKind.i64 (0 : Int)), S.sc (Value.bool false)], D.s (S.sc (Value.bool false))])) (some [D.agg [S.sc (Value.int IntKind.i64 (0 : Int)), S.sc (Value.bool false)], D.s (S.sc (Value.bool false))]))) (bcase (a == (6 : Int)) (bcase (UPlace.placeV (b2, b3).snd == (4 : Int)) (some [D.agg [S.sc (Value.int IntKind.i64 (1 : Int)), S.sc (Value.bool (wv (b1, b2) % (4 : Int) == (3 : Int)))], D.s (S.sc (Value.bool true))]) (some [D.agg [S.sc (Value.int IntKind.i64 (0 : Int)), S.sc (Value.bool false)], D.s (S.sc (Value.bool false))])) (some [D.agg [S.sc (Value.int IntKind.i64 (0 : Int)), S.sc (Value.bool false)], D.s (S.sc (Value.bool false))]))))) (bcase (a == (6 : Int)) (bcase (UPlace.placeV (b2, b3).snd == (3 : Int)) (some [D.agg [S.sc (Value.int IntKind.i64 (2 : Int)), S.sc (Value.bool (wv (b1, b2) % (4 : Int) == (3 : Int)))], D.s (S.sc (Value.bool true))]) (bcase (a == (6 : Int)) (bcase (UPlace.placeV (b2, b3).snd == (4 : Int)) (some [D.agg [S.sc (Value.int IntKind.i64 (1 : Int)), S.sc (Value.bool (wv (b1, b2) % (4 : Int) == (3 : Int)))], D.s (S.sc (Value.bool true))]) (some [D.agg [S.sc (Value.int IntKind.i64 (0 : Int)), S.sc (Value.bool false)], D.s (S.sc (Value.bool false))])) (some [D.agg [S.sc (Value.int IntKind.i64 (0 : Int)), S.sc (Value.bool false)], D.s (S.sc (Value.bool false))]))) (bcase (a == (6 : Int)) (bcase (UPlace.placeV (b2, b3).snd == (4 : Int)) (some [D.agg [S.sc (Value.int IntKind.i64 (1 : Int)), S.sc (Value.bool (wv (b1, b2) % (4 : Int) == (3 : Int)))], D.s (S.sc (Value.bool true))]) (some [D.agg [S.sc (Value.int IntKind.i64 (0 : Int)), S.sc (Value.bool false)], D.s (S.sc (Value.bool false))])) (some [D.agg [S.sc (Value.int IntKind.i64 (0 : Int)), S.sc (Value.bool false)], D.s (S.sc (Value.bool false))])))))
                (bcase (a == (6 : Int)) (bcase (UPlace.placeV (b2, b3).snd == (1 : Int)) (some [D.agg [S.sc (Value.int IntKind.i64 (0 : Int)), S.sc (Value.bool (b1 != (UPlace.placeV (b2, b3).snd == (2 : Int))))], D.s (S.sc (Value.bool true))]) (bcase (UPlace.placeV (b2, b3).snd == (2 : Int)) (some [D.agg [S.sc (Value.int IntKind.i64 (0 : Int)), S.sc (Value.bool (b1 != (UPlace.placeV (b2, b3).snd == (2 : Int))))], D.s (S.sc (Value.bool true))]) (bcase (a == (6 : Int)) (bcase (UPlace.placeV (b2, b3).snd == (3 : Int)) (some [D.agg [S.sc (Value.int IntKind.i64 (2 : Int)), S.sc (Value.bool (wv (b1, b2) % (4 : Int) == (3 : Int)))], D.s (S.sc (Value.bool true))]) (bcase (a == (6 : Int)) (bcase (UPlace.placeV (b2, b3).snd == (4 : Int)) (some [D.agg [S.sc (Value.int IntKind.i64 (1 : Int)), S.sc (Value.bool (wv (b1, b2) % (4 : Int) == (3 : Int)))], D.s (S.sc (Value.bool true))]) (some [D.agg [S.sc (Value.int IntKind.i64 (0 : Int)), S.sc (Value.bool false)], D.s (S.sc (Value.bool false))])) (some [D.agg [S.sc (Value.int IntKind.i64 (0 : Int)), S.sc (Value.bool false)], D.s (S.sc (Value.bool false))]))) (bcase (a == (6 : Int)) (bcase (UPlace.placeV (b2, b3).snd == (4 : Int)) (some [D.agg [S.sc (Value.int IntKind.i64 (1 : Int)), S.sc (Value.bool (wv (b1, b2) % (4 : Int) == (3 : Int)))], D.s (S.sc (Value.bool true))]) (some [D.agg [S.sc (Value.int IntKind.i64 (0 : Int)), S.sc (Value.bool false)], D.s (S.sc (Value.bool false))])) (some [D.agg [S.sc (Value.int IntKind.i64 (0 : Int)), S.sc (Value.bool false)], D.s (S.sc (Value.bool false))]))))) (bcase (a == (6 : Int)) (bcase (UPlace.placeV (b2, b3).snd == (3 : Int)) (some [D.agg [S.sc (Value.int IntKind.i64 (2 : Int)), S.sc (Value.bool (wv (b1, b2) % (4 : Int) == (3 : Int)))], D.s (S.sc (Value.bool true))]) (bcase (a == (6 : Int)) (bcase (UPlace.placeV (b2, b3).snd == (4 : Int)) (some [D.agg [S.sc (Value.int IntKind.i64 (1 : Int)), S.sc (Value.bool (wv (b1, b2) % (4 : Int) == (3 : Int)))], D.s (S.sc (Value.bool true))]) (some [D.agg [S.sc (Value.int IntKind.i64 (0 : Int)), S.sc (Value.bool false)], D.s (S.sc (Value.bool false))])) (some [D.agg [S.sc (Value.int IntKind.i64 (0 : Int)), S.sc (Value.bool false)], D.s (S.sc (Value.bool false))]))) (bcase (a == (6 : Int)) (bcase (UPlace.placeV (b2, b3).snd == (4 : Int)) (some [D.agg [S.sc (Value.int IntKind.i64 (1 : Int)), S.sc (Value.bool (wv (b1, b2) % (4 : Int) == (3 : Int)))], D.s (S.sc (Value.bool true))]) (some [D.agg [S.sc (Value.int IntKind.i64 (0 : Int)), S.sc (Value.bool false)], D.s (S.sc (Value.bool false))])) (some [D.agg [S.sc (Value.int IntKind.i64 (0 : Int)), S.sc (Value.bool false)], D.s (S.sc (Value.bool false))])))))))))
      (bcase (a == (4 : Int))
        (bcase (UPlace.placeV (b2, b3).snd == (3 : Int)) (some [D.agg [S.sc (Value.int IntKind.i64 (1 : Int)), S.sc (Value.bool (wv (b1, b2) % (4 : Int) == (3 : Int)))], D.s (S.sc (Value.bool true))])
          (bcase (a == (5 : Int))
            (bcase (UPlace.placeV (b2, b3).snd == (1 : Int)) (some [D.agg [S.sc (Value.int IntKind.i64 (1 : Int)), S.sc (Value.bool (UPlace.placeV (b2, b3).snd == (2 : Int)))], D.s (S.sc (Value.bool true))])
              (bcase (UPlace.placeV (b2, b3).snd == (2 : Int)) (some [D.agg [S.sc (Value.int IntKind.i64 (1 : Int)), S.sc (Value.bool (UPlace.placeV (b2, b3).snd == (2 : Int)))], D.s (S.sc (Value.bool true))])
                (bcase (a == (5 : Int)) (bcase (UPlace.placeV (b2, b3).snd == (3 : Int)) (some [D.agg [S.sc (Value.int IntKind.i64 (0 : Int)), S.sc (Value.bool false)], D.s (S.sc (Value.bool true))]) (bcase (a == (6 : Int)) (bcase (UPlace.placeV (b2, b3).snd == (1 : Int)) (some [D.agg [S.sc (Value.int IntKind.i64 (0 : Int)), S.sc (Value.bool (b1 != (UPlace.placeV (b2, b3).snd == (2 : Int))))], D.s (S.sc (Value.bool true))]) (bcase (UPlace.placeV (b2, b3).snd == (2 : Int)) (some [D.agg [S.sc (Value.int IntKind.i64 (0 : Int)), S.sc (Value.bool (b1 != (UPlace.placeV (b2, b3).snd == (2 : Int))))], D.s (S.sc (Value.bool true))]) (bcase (a == (6 : Int)) (bcase (UPlace.placeV (b2, b3).snd == (3 : Int)) (some [D.agg [S.sc (Value.int IntKind.i64 (2 : Int)), S.sc (Value.bool (wv (b1, b2) % (4 : Int) == (3 : Int)))], D.s (S.sc (Value.bool true))]) (bcase (a == (6 : Int)) (bcase (UPlace.placeV (b2, b3).snd == (4 : Int)) (some [D.agg [S.sc (Value.int IntKind.i64 (1 : Int)), S.sc (Value.bool (wv (b1, b2) % (4 : Int) == (3 : Int)))], D.s (S.sc (Value.bool true))]) (some [D.agg [S.sc (Value.int IntKind.i64 (0 : Int)), S.sc (Value.bool false)], D.s (S.sc (Value.bool false))])) (some [D.agg [S.sc (Value.int IntKind.i64 (0 : Int)), S.sc (Value.bool false)], D.s (S.sc (Value.bool false))]))) (bcase (a == (6 : Int)) (bcase (UPlace.placeV (b2, b3).snd == (4 : Int)) (some [D.agg [S.sc (Value.int IntKind.i64 (1 : Int)), S.sc (Value.bool (wv (b1, b2) % (4 : Int) == (3 : Int)))], D.s (S.sc (Value.bool true))]) (some [D.agg [S.sc (Value.int IntKind.i64 (0 : Int)), S.sc (Value.bool false)], D.s (S.sc (Value.bool false))])) (some [D.agg [S.sc (Value.int IntKind.i64 (0 : Int)), S.sc (Value.bool false)], D.s (S.sc (Value.bool false))]))))) (bcase (a == (6 : Int)) (bcase (UPlace.placeV (b2, b3).snd == (3 : Int)) (some [D.agg [S.sc (Value.int IntKind.i64 (2 : Int)), S.sc (Value.bool (wv (b1, b2) % (4 : Int) == (3 : Int)))], D.s (S.sc (Value.bool true))]) (bcase (a == (6 : Int)) (bcase (UPlace.placeV (b2, b3).snd == (4 : Int)) (some [D.agg [S.sc (Value.int IntKind.i64 (1 : Int)), S.sc (Value.bool (wv (b1, b2) % (4 : Int) == (3 : Int)))], D.s (S.sc (Value.bool true))]) (some [D.agg [S.sc (Value.int IntKind.i64 (0 : Int)), S.sc (Value.bool false)], D.s (S.sc (Value.bool false))])) (some [D.agg [S.sc (Value.int IntKind.i64 (0 : Int)), S.sc (Value.bool false)], D.s (S.sc (Value.bool false))]))) (bcase (a == (6 : Int)) (bcase (UPlace.placeV (b2, b3).snd == (4 : Int)) (some [D.agg [S.sc (Value.int IntKind.i64 (1 : Int)), S.sc (Value.bool (wv (b1, b2) % (4 : Int) == (3 : Int)))], D.s (S.sc (Value.bool true))]) (some [D.agg [S.sc (Value.int IntKind.i64 (0 : Int)), S.sc (Value.bool false)], D.s (S.sc (Value.bool false))])) (some [D.agg [S.sc (Value.int IntKind.i64 (0 : Int)), S.sc (Value.bool false)], D.s (S.sc (Value.bool false))])))))
                  (bcase (a == (6 : Int)) (bcase (UPlace.placeV (b2, b3).snd == (1 : Int)) (some [D.agg [S.sc (Value.int IntKind.i64 (0 : Int)), S.sc (Value.bool (b1 != (UPlace.placeV (b2, b3).snd == (2 : Int))))], D.s (S.sc (Value.bool true))]) (bcase (UPlace.placeV (b2, b3).snd == (2 : Int)) (some [D.agg [S.sc (Value.int IntKind.i64 (0 : Int)), S.sc (Value.bool (b1 != (UPlace.placeV (b2, b3).snd == (2 : Int))))], D.s (S.sc (Value.bool true))]) (bcase (a == (6 : Int)) (bcase (UPlace.placeV (b2, b3).snd == (3 : Int)) (some [D.agg [S.sc (Value.int IntKind.i64 (2 : Int)), S.sc (Value.bool (wv (b1, b2) % (4 : Int) == (3 : Int)))], D.s (S.sc (Value.bool true))]) (bcase (a == (6 : Int)) (bcase (UPlace.placeV (b2, b3).snd == (4 : Int)) (some [D.agg [S.sc (Value.int IntKind.i64 (1 : Int)), S.sc (Value.bool (wv (b1, b2) % (4 : Int) == (3 : Int)))], D.s (S.sc (Value.bool true))]) (some [D.agg [S.sc (Value.int IntKind.i64 (0 : Int)), S.sc (Value.bool false)], D.s (S.sc (Value.bool false))])) (some [D.agg [S.sc (Value.int IntKind.i64 (0 : Int)), S.sc (Value.bool false)], D.s (S.sc (Value.bool false))]))) (bcase (a == (6 : Int)) (bcase (UPlace.placeV (b2, b3).snd == (4 : Int)) (some [D.agg [S.sc (Value.int IntKind.i64 (1 : Int)), S.sc (Value.bool (wv (b1, b2) % (4 : Int) == (3 : Int)))], D.s (S.sc (Value.bool true))]) (some [D.agg [S.sc (Value.int IntKind.i64 (0 : Int)), S.sc (Value.bool false)], D.s (S.sc (Value.bool false))])) (some [D.agg [S.sc (Value.int IntKind.i64 (0 : Int)), S.sc (Value.bool false)], D.s (S.sc (Value.bool false))]))))) (bcase (a == (6 : Int)) (bcase (UPlace.placeV (b2, b3).snd == (3 : Int)) (some [D.agg [S.sc (Value.int IntKind.i64 (2 : Int)), S.sc (Value.bool (wv (b1, b2) % (4 : Int) == (3 : Int)))], D.s (S.sc (Value.bool true))]) (bcase (a == (6 : Int)) (bcase (UPlace.placeV (b2, b3).snd == (4 : Int)) (some [D.agg [S.sc (Value.int IntKind.i64 (1 : Int)), S.sc (Value.bool (wv (b1, b2) % (4 : Int) == (3 : Int)))], D.s (S.sc (Value.bool true))]) (some [D.agg [S.sc (Value.int IntKind.i64 (0 : Int)), S.sc (Value.bool false)], D.s (S.sc (Value.bool false))])) (some [D.agg [S.sc (Value.int IntKind.i64 (0 : Int)), S.sc (Value.bool false)], D.s (S.sc (Value.bool false))]))) (bcase (a == (6 : Int)) (bcase (UPlace.placeV (b2, b3).snd == (4 : Int)) (some [D.agg [S.sc (Value.int IntKind.i64 (1 : Int)), S.sc (Value.bool (wv (b1, b2) % (4 : Int) == (3 : Int)))], D.s (S.sc (Value.bool true))]) (some [D.agg [S.sc (Value.int IntKind.i64 (0 : Int)), S.sc (Value.bool false)], D.s (S.sc (Value.bool false))])) (some [D.agg [S.sc (Value.int IntKind.i64 (0 : Int)), S.sc (Value.bool false)], D.s (S.sc (Value.bool false))])))))))
            (bcase (a == (5 : Int)) (bcase (UPlace.placeV (b2, b3).snd == (3 : Int)) (some [D.agg [S.sc (Value.int IntKind.i64 (0 : Int)), S.sc (Value.bool false)], D.s (S.sc (Value.bool true))]) (bcase (a == (6 : Int)) (bcase (UPlace.placeV (b2, b3).snd == (1 : Int)) (some [D.agg [S.sc (Value.int IntKind.i64 (0 : Int)), S.sc (Value.bool (b1 != (UPlace.placeV (b2, b3).snd == (2 : Int))))], D.s (S.sc (Value.bool true))]) (bcase (UPlace.placeV (b2, b3).snd == (2 : Int)) (some [D.agg [S.sc (Value.int IntKind.i64 (0 : Int)), S.sc (Value.bool (b1 != (UPlace.placeV (b2, b3).snd == (2 : Int))))], D.s (S.sc (Value.bool true))]) (bcase (a == (6 : Int)) (bcase (UPlace.placeV (b2, b3).snd == (3 : Int)) (some [D.agg [S.sc (Value.int IntKind.i64 (2 : Int)), S.sc (Value.bool (wv (b1, b2) % (4 : Int) == (3 : Int)))], D.s (S.sc (Value.bool true))]) (bcase (a == (6 : Int)) (bcase (UPlace.placeV (b2, b3).snd == (4 : Int)) (some [D.agg [S.sc (Value.int IntKind.i64 (1 : Int)), S.sc (Value.bool (wv (b1, b2) % (4 : Int) == (3 : Int)))], D.s (S.sc (Value.bool true))]) (some [D.agg [S.sc (Value.int IntKind.i64 (0 : Int)), S.sc (Value.bool false)], D.s (S.sc (Value.bool false))])) (some [D.agg [S.sc (Value.int IntKind.i64 (0 : Int)), S.sc (Value.bool false)], D.s (S.sc (Value.bool false))]))) (bcase (a == (6 : Int)) (bcase (UPlace.placeV (b2, b3).snd == (4 : Int)) (some [D.agg [S.sc (Value.int IntKind.i64 (1 : Int)), S.sc (Value.bool (wv (b1, b2) % (4 : Int) == (3 : Int)))], D.s (S.sc (Value.bool true))]) (some [D.agg [S.sc (Value.int IntKind.i64 (0 : Int)), S.sc (Value.bool false)], D.s (S.sc (Value.bool false))])) (some [D.agg [S.sc (Value.int IntKind.i64 (0 : Int)), S.sc (Value.bool false)], D.s (S.sc (Value.bool false))]))))) (bcase (a == (6 : Int)) (bcase (UPlace.placeV (b2, b3).snd == (3 : Int)) (some [D.agg [S.sc (Value.int IntKind.i64 (2 : Int)), S.sc (Value.bool (wv (b1, b2) % (4 : Int) == (3 : Int)))], D.s (S.sc (Value.bool true))]) (bcase (a == (6 : Int)) (bcase (UPlace.placeV (b2, b3).snd == (4 : Int)) (some [D.agg [S.sc (Value.int IntKind.i64 (1 : Int)), S.sc (Value.bool (wv (b1, b2) % (4 : Int) == (3 : Int)))], D.s (S.sc (Value.bool true))]) (some [D.agg [S.sc (Value.int IntKind.i64 (0 : Int)), S.sc (Value.bool false)], D.s (S.sc (Value.bool false))])) (some [D.agg [S.sc (Value.int IntKind.i64 (0 : Int)), S.sc (Value.bool false)], D.s (S.sc (Value.bool false))]))) (bcase (a == (6 : Int)) (bcase (UPlace.placeV (b2, b3).snd == (4 : Int)) (some [D.agg [S.sc (Value.int IntKind.i64 (1 : Int)), S.sc (Value.bool (wv (b1, b2) % (4 : Int) == (3 : Int)))], D.s (S.sc (Value.bool true))]) (some [D.agg [S.sc (Value.int IntKind.i64 (0 : Int)), S.sc (Value.bool false)], D.s (S.sc (Value.bool false))])) (some [D.agg [S.sc (Value.int IntKind.i64 (0 : Int)), S.sc (Value.bool false)], D.s (S.sc (Value.bool false))])))))
              (bcase (a == (6 : Int)) (bcase (UPlace.placeV (b2, b3).snd == (1 : Int)) (some [D.agg [S.sc (Value.int IntKind.i64 (0 : Int)), S.sc (Value.bool (b1 != (UPlace.placeV (b2, b3).snd == (2 : Int))))], D.s (S.sc (Value.bool true))]) (bcase (UPlace.placeV (b2, b3).snd == (2 : Int)) (some [D.agg [S.sc (Value.int IntKind.i64 (0 : Int)), S.sc (Value.bool (b1 != (UPlace.placeV (b2, b3).snd == (2 : Int))))], D.s (S.sc (Value.bool true))]) (bcase (a == (6 : Int)) (bcase (UPlace.placeV (b2, b3).snd == (3 : Int)) (some [D.agg [S.sc (Value.int IntKind.i64 (2 : Int)), S.sc (Value.bool (wv (b1, b2) % (4 : Int) == (3 : Int)))], D.s (S.sc (Value.bool true))]) (bcase (a == (6 : Int)) (bcase (UPlace.placeV (b2, b3).snd == (4 : Int)) (some [D.agg [S.sc (Value.int IntKind.i64 (1 : Int)), S.sc (Value.bool (wv (b1, b2) % (4 : Int) == (3 : Int)))], D.s (S.sc (Value.bool true))]) (some [D.agg [S.sc (Value.int IntKind.i64 (0 : Int)), S.sc (Value.bool false)], D.s (S.sc (Value.bool false))])) (some [D.agg [S.sc (Value.int IntKind.i64 (0 : Int)), S.sc (Value.bool false)], D.s (S.sc (Value.bool false))]))) (bcase (a == (6 : Int)) (bcase (UPlace.placeV (b2, b3).snd == (4 : Int)) (some [D.agg [S.sc (Value.int IntKind.i64 (1 : Int)), S.sc (Value.bool (wv (b1, b2) % (4 : Int) == (3 : Int)))], D.s (S.sc (Value.bool true))]) (some [D.agg [S.sc (Value.int IntKind.i64 (0 : Int)), S.sc (Value.bool false)], D.s (S.sc (Value.bool false))])) (some [D.agg [S.sc (Value.int IntKind.i64 (0 : Int)), S.sc (Value.bool false)], D.s (S.sc (Value.bool false))]))))) (bcase (a == (6 : Int)) (bcase (UPlace.placeV (b2, b3).snd == (3 : Int)) (some [D.agg [S.sc (Value.int IntKind.i64 (2 : Int)), S.sc (Value.bool (wv (b1, b2) % (4 : Int) == (3 : Int)))], D.s (S.sc (Value.bool true))]) (bcase (a == (6 : Int)) (bcase (UPlace.placeV (b2, b3).snd == (4 : Int)) (some [D.agg [S.sc (Value.int IntKind.i64 (1 : Int)), S.sc (Value.bool (wv (b1, b2) % (4 : Int) == (3 : Int)))], D.s (S.sc (Value.bool true))]) (some [D.agg [S.sc (Value.int IntKind.i64 (0 : Int)), S.sc (Value.bool false)], D.s (S.sc (Value.bool false))])) (some [D.agg [S.sc (Value.int IntKind.i64 (0 : Int)), S.sc (Value.bool false)], D.s (S.sc (Value.bool false))]))) (bcase (a == (6 : Int)) (bcase (UPlace.placeV (b2, b3).snd == (4 : Int)) (some [D.agg [S.sc (Value.int IntKind.i64 (1 : Int)), S.sc (Value.bool (wv (b1, b2) % (4 : Int) == (3 : Int)))], D.s (S.sc (Value.bool true))]) (some [D.agg [S.sc (Value.int IntKind.i64 (0 : Int)), S.sc (Value.bool false)], D.s (S.sc (Value.bool false))])) (some [D.agg [S.sc (Value.int IntKind.i64 (0 : Int)), S.sc (Value.bool false)], D.s (S.sc (Value.bool false))])))))))
        (bcase (a == (5 : Int))
          (bcase (UPlace.placeV (b2, b3).snd == (1 : Int)) (some [D.agg [S.sc (Value.int IntKind.i64 (1 : Int)), S.sc (Value.bool (UPlace.placeV (b2, b3).snd == (2 : Int)))], D.s (S.sc (Value.bool true))])
            (bcase (UPlace.placeV (b2, b3).snd == (2 : Int)) (some [D.agg [S.sc (Value.int IntKind.i64 (1 : Int)), S.sc (Value.bool (UPlace.placeV (b2, b3).snd == (2 : Int)))], D.s (S.sc (Value.bool true))])
              (bcase (a == (5 : Int)) (bcase (UPlace.placeV (b2, b3).snd == (3 : Int)) (some [D.agg [S.sc (Value.int IntKind.i64 (0 : Int)), S.sc (Value.bool false)], D.s (S.sc (Value.bool true))]) (bcase (a == (6 : Int)) (bcase (UPlace.placeV (b2, b3).snd == (1 : Int)) (some [D.agg [S.sc (Value.int IntKind.i64 (0 : Int)), S.sc (Value.bool (b1 != (UPlace.placeV (b2, b3).snd == (2 : Int))))], D.s (S.sc (Value.bool true))]) (bcase (UPlace.placeV (b2, b3).snd == (2 : Int)) (some [D.agg [S.sc (Value.int IntKind.i64 (0 : Int)), S.sc (Value.bool (b1 != (UPlace.placeV (b2, b3).snd == (2 : Int))))], D.s (S.sc (Value.bool true))]) (bcase (a == (6 : Int)) (bcase (UPlace.placeV (b2, b3).snd == (3 : Int)) (some [D.agg [S.sc (Value.int IntKind.i64 (2 : Int)), S.sc (Value.bool (wv (b1, b2) % (4 : Int) == (3 : Int)))], D.s (S.sc (Value.bool true))]) (bcase (a == (6 : Int)) (bcase (UPlace.placeV (b2, b3).snd == (4 : Int)) (some [D.agg [S.sc (Value.int IntKind.i64 (1 : Int)), S.sc (Value.bool (wv (b1, b2) % (4 : Int) == (3 : Int)))], D.s (S.sc (Value.bool true))]) (some [D.agg [S.sc (Value.int IntKind.i64 (0 : Int)), S.sc (Value.bool false)], D.s (S.sc (Value.bool false))])) (some [D.agg [S.sc (Value.int IntKind.i64 (0 : Int)), S.sc (Value.bool false)], D.s (S.sc (Value.bool false))]))) (bcase (a == (6 : Int)) (bcase (UPlace.placeV (b2, b3).snd == (4 : Int)) (some [D.agg [S.sc (Value.int IntKind.i64 (1 : Int)), S.sc (Value.bool (wv (b1, b2) % (4 : Int) == (3 : Int)))], D.s (S.sc (Value.bool true))]) (some [D.agg [S.sc (Value.int IntKind.i64 (0 : Int)), S.sc (Value.bool false)], D.s (S.sc (Value.bool false))])) (some [D.agg [S.sc (Value.int IntKind.i64 (0 : Int)), S.sc (Value.bool false)], D.s (S.sc (Value.bool false))]))))) (bcase (a == (6 : Int)) (bcase (UPlace.placeV (b2, b3).snd == (3 : Int)) (some [D.agg [S.sc (Value.int IntKind.i64 (2 : Int)), S.sc (Value.bool (wv (b1, b2) % (4 : Int) == (3 : Int)))], D.s (S.sc (Value.bool true))]) (bcase (a == (6 : Int)) (bcase (UPlace.placeV (b2, b3).snd == (4 : Int)) (some [D.agg [S.sc (Value.int IntKind.i64 (1 : Int)), S.sc (Value.bool (wv (b1, b2) % (4 : Int) == (3 : Int)))], D.s (S.sc (Value.bool true))]) (some [D.agg [S.sc (Value.int IntKind.i64 (0 : Int)), S.sc (Value.bool false)], D.s (S.sc (Value.bool false))])) (some [D.agg [S.sc (Value.int IntKind.i64 (0 : Int)), S.sc (Value.bool false)], D.s (S.sc (Value.bool false))]))) (bcase (a == (6 : Int)) (bcase (UPlace.placeV (b2, b3).snd == (4 : Int)) (some [D.agg [S.sc (Value.int IntKind.i64 (1 : Int)), S.sc (Value.bool (wv (b1, b2) % (4 : Int) == (3 : Int)))], D.s (S.sc (Value.bool true))]) (some [D.agg [S.sc (Value.int IntKind.i64 (0 : Int)), S.sc (Value.bool false)], D.s (S.sc (Value.bool false))])) (some [D.agg [S.sc (Value.int IntKind.i64 (0 : Int)), S.sc (Value.bool false)], D.s (S.sc (Value.bool false))])))))
                (bcase (a == (6 : Int)) (bcase (UPlace.placeV (b2, b3).snd == (1 : Int)) (some [D.agg [S.sc (Value.int IntKind.i64 (0 : Int)), S.sc (Value.bool (b1 != (UPlace.placeV (b2, b3).snd == (2 : Int))))], D.s (S.sc (Value.bool true))]) (bcase (UPlace.placeV (b2, b3).snd == (2 : Int)) (some [D.agg [S.sc (Value.int IntKind.i64 (0 : Int)), S.sc (Value.bool (b1 != (UPlace.placeV (b2, b3).snd == (2 : Int))))], D.s (S.sc (Value.bool true))]) (bcase (a == (6 : Int)) (bcase (UPlace.placeV (b2, b3).snd == (3 : Int)) (some [D.agg [S.sc (Value.int IntKind.i64 (2 : Int)), S.sc (Value.bool (wv (b1, b2) % (4 : Int) == (3 : Int)))], D.s (S.sc (Value.bool true))]) (bcase (a == (6 : Int)) (bcase (UPlace.placeV (b2, b3).snd == (4 : Int)) (some [D.agg [S.sc (Value.int IntKind.i64 (1 : Int)), S.sc (Value.bool (wv (b1, b2) % (4 : Int) == (3 : Int)))], D.s (S.sc (Value.bool true))]) (some [D.agg [S.sc (Value.int IntKind.i64 (0 : Int)), S.sc (Value.bool false)], D.s (S.sc (Value.bool false))])) (some [D.agg [S.sc (Value.int IntKind.i64 (0 : Int)), S.sc (Value.bool false)], D.s (S.sc (Value.bool false))]))) (bcase (a == (6 : Int)) (bcase (UPlace.placeV (b2, b3).snd == (4 : Int)) (some [D.agg [S.sc (Value.int IntKind.i64 (1 : Int)), S.sc (Value.bool (wv (b1, b2) % (4 : Int) == (3 : Int)))], D.s (S.sc (Value.bool true))]) (some [D.agg [S.sc (Value.int IntKind.i64 (0 : Int)), S.sc (Value.bool false)], D.s (S.sc (Value.bool false))])) (some [D.agg [S.sc (Value.int IntKind.i64 (0 : Int)), S.sc (Value.bool false)], D.s (S.sc (Value.bool false))]))))) (bcase (a == (6 : Int)) (bcase (UPlace.placeV (b2, b3).snd == (3 : Int)) (some [D.agg [S.sc (Value.int IntKind.i64 (2 : Int)), S.sc (Value.bool (wv (b1, b2) % (4 : Int) == (3 : Int)))], D.s (S.sc (Value.bool true))]) (bcase (a == (6 : Int)) (bcase (UPlace.placeV (b2, b3).snd == (4 : Int)) (some [D.agg [S.sc (Value.int IntKind.i64 (1 : Int)), S.sc (Value.bool (wv (b1, b2) % (4 : Int) == (3 : Int)))], D.s (S.sc (Value.bool true))]) (some [D.agg [S.sc (Value.int IntKind.i64 (0 : Int)), S.sc (Value.bool false)], D.s (S.sc (Value.bool false))])) (some [D.agg [S.sc (Value.int IntKind.i64 (0 : Int)), S.sc (Value.bool false)], D.s (S.sc (Value.bool false))]))) (bcase (a == (6 : Int)) (bcase (UPlace.placeV (b2, b3).snd == (4 : Int)) (some [D.agg [S.sc (Value.int IntKind.i64 (1 : Int)), S.sc (Value.bool (wv (b1, b2) % (4 : Int) == (3 : Int)))], D.s (S.sc (Value.bool true))]) (some [D.agg [S.sc (Value.int IntKind.i64 (0 : Int)), S.sc (Value.bool false)], D.s (S.sc (Value.bool false))])) (some [D.agg [S.sc (Value.int IntKind.i64 (0 : Int)), S.sc (Value.bool false)], D.s (S.sc (Value.bool false))])))))))
          (bcase (a == (5 : Int)) (bcase (UPlace.placeV (b2, b3).snd == (3 : Int)) (some [D.agg [S.sc (Value.int IntKind.i64 (0 : Int)), S.sc (Value.bool false)], D.s (S.sc (Value.bool true))]) (bcase (a == (6 : Int)) (bcase (UPlace.placeV (b2, b3).snd == (1 : Int)) (some [D.agg [S.sc (Value.int IntKind.i64 (0 : Int)), S.sc (Value.bool (b1 != (UPlace.placeV (b2, b3).snd == (2 : Int))))], D.s (S.sc (Value.bool true))]) (bcase (UPlace.placeV (b2, b3).snd == (2 : Int)) (some [D.agg [S.sc (Value.int IntKind.i64 (0 : Int)), S.sc (Value.bool (b1 != (UPlace.placeV (b2, b3).snd == (2 : Int))))], D.s (S.sc (Value.bool true))]) (bcase (a == (6 : Int)) (bcase (UPlace.placeV (b2, b3).snd == (3 : Int)) (some [D.agg [S.sc (Value.int IntKind.i64 (2 : Int)), S.sc (Value.bool (wv (b1, b2) % (4 : Int) == (3 : Int)))], D.s (S.sc (Value.bool true))]) (bcase (a == (6 : Int)) (bcase (UPlace.placeV (b2, b3).snd == (4 : Int)) (some [D.agg [S.sc (Value.int IntKind.i64 (1 : Int)), S.sc (Value.bool (wv (b1, b2) % (4 : Int) == (3 : Int)))], D.s (S.sc (Value.bool true))]) (some [D.agg [S.sc (Value.int IntKind.i64 (0 : Int)), S.sc (Value.bool false)], D.s (S.sc (Value.bool false))])) (some [D.agg [S.sc (Value.int IntKind.i64 (0 : Int)), S.sc (Value.bool false)], D.s (S.sc (Value.bool false))]))) (bcase (a == (6 : Int)) (bcase (UPlace.placeV (b2, b3).snd == (4 : Int)) (some [D.agg [S.sc (Value.int IntKind.i64 (1 : Int)), S.sc (Value.bool (wv (b1, b2) % (4 : Int) == (3 : Int)))], D.s (S.sc (Value.bool true))]) (some [D.agg [S.sc (Value.int IntKind.i64 (0 : Int)), S.sc (Value.bool false)], D.s (S.sc (Value.bool false))])) (some [D.agg [S.sc (Value.int IntKind.i64 (0 : Int)), S.sc (Value.bool false)], D.s (S.sc (Value.bool false))]))))) (bcase (a == (6 : Int)) (bcase (UPlace.placeV (b2, b3).snd == (3 : Int)) (some [D.agg [S.sc (Value.int IntKind.i64 (2 : Int)), S.sc (Value.bool (wv (b1, b2) % (4 : Int) == (3 : Int)))], D.s (S.sc (Value.bool true))]) (bcase (a == (6 : Int)) (bcase (UPlace.placeV (b2, b3).snd == (4 : Int)) (some [D.agg [S.sc (Value.int IntKind.i64 (1 : Int)), S.sc (Value.bool (wv (b1, b2) % (4 : Int) == (3 : Int)))], D.s (S.sc (Value.bool true))]) (some [D.agg [S.sc (Value.int IntKind.i64 (0 : Int)), S.sc (Value.bool false)], D.s (S.sc (Value.bool false))])) (some [D.agg [S.sc (Value.int IntKind.i64 (0 : Int)), S.sc (Value.bool false)], D.s (S.sc (Value.bool false))]))) (bcase (a == (6 : Int)) (bcase (UPlace.placeV (b2, b3).snd == (4 : Int)) (some [D.agg [S.sc (Value.int IntKind.i64 (1 : Int)), S.sc (Value.bool (wv (b1, b2) % (4 : Int) == (3 : Int)))], D.s (S.sc (Value.bool true))]) (some [D.agg [S.sc (Value.int IntKind.i64 (0 : Int)), S.sc (Value.bool false)], D.s (S.sc (Value.bool false))])) (some [D.agg [S.sc (Value.int IntKind.i64 (0 : Int)), S.sc (Value.bool false)], D.s (S.sc (Value.bool false))])))))
            (bcase (a == (6 : Int)) (bcase (UPlace.placeV (b2, b3).snd == (1 : Int)) (some [D.agg [S.sc (Value.int IntKind.i64 (0 : Int)), S.sc (Value.bool (b1 != (UPlace.placeV (b2, b3).snd == (2 : Int))))], D.s (S.sc (Value.bool true))]) (bcase (UPlace.placeV (b2, b3).snd == (2 : Int)) (some [D.agg [S.sc (Value.int IntKind.i64 (0 : Int)), S.sc (Value.bool (b1 != (UPlace.placeV (b2, b3).snd == (2 : Int))))], D.s (S.sc (Value.bool true))]) (bcase (a == (6 : Int)) (bcase (UPlace.placeV (b2, b3).snd == (3 : Int)) (some [D.agg [S.sc (Value.int IntKind.i64 (2 : Int)), S.sc (Value.bool (wv (b1, b2) % (4 : Int) == (3 : Int)))], D.s (S.sc (Value.bool true))]) (bcase (a == (6 : Int)) (bcase (UPlace.placeV (b2, b3).snd == (4 : Int)) (some [D.agg [S.sc (Value.int IntKind.i64 (1 : Int)), S.sc (Value.bool (wv (b1, b2) % (4 : Int) == (3 : Int)))], D.s (S.sc (Value.bool true))]) (some [D.agg [S.sc (Value.int IntKind.i64 (0 : Int)), S.sc (Value.bool false)], D.s (S.sc (Value.bool false))])) (some [D.agg [S.sc (Value.int IntKind.i64 (0 : Int)), S.sc (Value.bool false)], D.s (S.sc (Value.bool false))]))) (bcase (a == (6 : Int)) (bcase (UPlace.placeV (b2, b3).snd == (4 : Int)) (some [D.agg [S.sc (Value.int IntKind.i64 (1 : Int)), S.sc (Value.bool (wv (b1, b2) % (4 : Int) == (3 : Int)))], D.s (S.sc (Value.bool true))]) (some [D.agg [S.sc (Value.int IntKind.i64 (0 : Int)), S.sc (Value.bool false)], D.s (S.sc (Value.bool false))])) (some [D.agg [S.sc (Value.int IntKind.i64 (0 : Int)), S.sc (Value.bool false)], D.s (S.sc (Value.bool false))]))))) (bcase (a == (6 : Int)) (bcase (UPlace.placeV (b2, b3).snd == (3 : Int)) (some [D.agg [S.sc (Value.int IntKind.i64 (2 : Int)), S.sc (Value.bool (wv (b1, b2) % (4 : Int) == (3 : Int)))], D.s (S.sc (Value.bool true))]) (bcase (a == (6 : Int)) (bcase (UPlace.placeV (b2, b3).snd == (4 : Int)) (some [D.agg [S.sc (Value.int IntKind.i64 (1 : Int)), S.sc (Value.bool (wv (b1, b2) % (4 : Int) == (3 : Int)))], D.s (S.sc (Value.bool true))]) (some [D.agg [S.sc (Value.int IntKind.i64 (0 : Int)), S.sc (Value.bool false)], D.s (S.sc (Value.bool false))])) (some [D.agg [S.sc (Value.int IntKind.i64 (0 : Int)), S.sc (Value.bool false)], D.s (S.sc (Value.bool false))]))) (bcase (a == (6 : Int)) (bcase (UPlace.placeV (b2, b3).snd == (4 : Int)) (some [D.agg [S.sc (Value.int IntKind.i64 (1 : Int)), S.sc (Value.bool (wv (b1, b2) % (4 : Int) == (3 : Int)))], D.s (S.sc (Value.bool true))]) (some [D.agg [S.sc (Value.int IntKind.i64 (0 : Int)), S.sc (Value.bool false)], D.s (S.sc (Value.bool false))])) (some [D.agg [S.sc (Value.int IntKind.i64 (0 : Int)), S.sc (Value.bool false)], D.s (S.sc (Value.bool false))]))))))))) := (evalFn_J rfl nok _).trans (by kernel_rfl)
-- stuck: 0
end UExact0
namespace UExact0
/-- The exact value of a function of pi times x: its size (2: a pole), its sign, whether it has one. -/
def exV (fn : Int) (p : Int × Int) : Int × Bool × Bool :=
  if fn = 4 then (if 0 ≤ p.2 then (0, isNeg p.1, true) else if p.2 = -1 then (1, p.1 % 4 == 3, true) else (0, false, false))
  else if fn = 5 then (if 0 ≤ p.2 then (1, p.2 == 0, true) else if p.2 = -1 then (0, false, true) else (0, false, false))
  else if fn = 6 then (if 0 ≤ p.2 then (0, isNeg p.1 != (p.2 == 0), true) else if p.2 = -1 then (2, p.1 % 4 == 3, true) else if p.2 = -2 then (1, p.1 % 4 == 3, true) else (0, false, false))
  else (0, false, false)
noncomputable def sp (fn : Int) (x : Bool × List Int × Int) : Prop × List D := (DyOk x, [.agg [.sc (.int .i64 (exV fn (dv x)).1), .sc (.bool (exV fn (dv x)).2.1)], .s (.sc (.bool (exV fn (dv x)).2.2))])
theorem spec (fn : Int) (x : Bool × List Int × Int) (h : (sp fn x).1) : evalFn E Tryz.f43 cod [(pN .i64).put fn, (pG (.pair sB (.pair (sI .u64) (sN .i64)))).put x] = some (sp fn x).2 := by
  have h : DyOk x := h
  refine (start fn x.1 x.2.1 x.2.2).trans ((gP trivial).trans ((gP h.wok).trans ?_))
  have hw := h.wok.cells.1
  obtain ⟨b, a, e⟩ := x
  dsimp only at *
  unfold sp exV dv
  dsimp only
  rw [hw]
  generalize wv (b, a) = z
  have hpl : (0 < e ∧ UPlace.placeV e = 1) ∨ (e = 0 ∧ UPlace.placeV e = 2) ∨ (e = -1 ∧ UPlace.placeV e = 3) ∨ (e = -2 ∧ UPlace.placeV e = 4) ∨ (e < -2 ∧ UPlace.placeV e = 0) := by
    unfold UPlace.placeV
    split
    · omega
    · split
      · omega
      · split
        · omega
        · split <;> omega
  generalize UPlace.placeV e = pv at *
  by_cases h4 : fn = 4
  · subst h4
    rcases hpl with ⟨he, rfl⟩ | ⟨rfl, rfl⟩ | ⟨rfl, rfl⟩ | ⟨rfl, rfl⟩ | ⟨he, rfl⟩
    · rw [if_pos rfl, if_pos (by omega)]; rfl
    · rfl
    · rfl
    · rfl
    · rw [if_pos rfl, if_neg (by omega), if_neg (by omega)]; rfl
  · by_cases h5 : fn = 5
    · subst h5
      rcases hpl with ⟨he, rfl⟩ | ⟨rfl, rfl⟩ | ⟨rfl, rfl⟩ | ⟨rfl, rfl⟩ | ⟨he, rfl⟩
      · rw [if_neg (by omega), if_pos rfl, if_pos (by omega), beq_eq_false_iff_ne.2 (show e ≠ 0 by omega)]; rfl
      · rfl
      · rfl
      · rfl
      · rw [if_neg (by omega), if_pos rfl, if_neg (by omega), if_neg (by omega)]; rfl
    · by_cases h6 : fn = 6
      · subst h6
        rcases hpl with ⟨he, rfl⟩ | ⟨rfl, rfl⟩ | ⟨rfl, rfl⟩ | ⟨rfl, rfl⟩ | ⟨he, rfl⟩
        · rw [if_neg (by omega), if_neg (by omega), if_pos rfl, if_pos (by omega), beq_eq_false_iff_ne.2 (show e ≠ 0 by omega)]; rfl
        · rfl
        · rfl
        · rfl
        · rw [if_neg (by omega), if_neg (by omega), if_pos rfl, if_neg (by omega), if_neg (by omega), if_neg (by omega)]; rfl
      · rw [if_neg h4, if_neg h5, if_neg h6]
        simp only [beq_eq_false_iff_ne.2 h4, beq_eq_false_iff_ne.2 h5, beq_eq_false_iff_ne.2 h6, bF]

noncomputable def orc : Orc := orc2 (pN .i64) (pG (.pair sB (.pair (sI .u64) (sN .i64)))) sp
theorem fnok : FnOk Tryz.prog E 43 Tryz.f43 cod := fnOk ty_ok mixed (callsOk_of _ rfl (orcs_cons UPlace.ok (orcs_cons UMod4.ok orcs_nil)) (ext_ok)) Tryz.func43 rfl rfl rfl
theorem ok : OrcOk Tryz.prog base.glob 43 orc := fnok.ok2 rfl spec
end UExact0
end Go.Proofs.YtfebndgmmekmgaaGreatDoor.W

/- gnomon/turn.Exact -/
namespace Go.Proofs.YtfebndgmmekmgaaGreatDoor.W
open Go Go.Proofs.YtfebndgmmekmgaaGreatDoor.AI Go.Proofs.YtfebndgmmekmgaaGreatDoor.M
namespace UExact
noncomputable def E : Env := { ({ base with C := callsOf [(26, BQuiet.orc), (40, UKnown.orc), (41, BClassOf.orc), (42, UPattern.orc), (15, BValue.orc), (43, UExact0.orc)] }) with nt := 67, own := [18, 31, 48, 66], keep := fun k => (tlook [] k).getD [], cut := tlook [(4, [0, 1, 2, 9]), (15, [0, 1, 2])] }
noncomputable def cod : Code := (Go.Proofs.Tryz.f12.body).getD .skip
theorem nok : namesOk E cod = true := by kernel_rfl
noncomputable def J4 (x0 : Int) (x1 : Int) (x2 : Int) (x3 : Int) : Option (List D) := ctO E Go.Proofs.Tryz.f12 cod 4 [(A.v (V.one (L.s (S.sc (Value.int IntKind.i64 x0)))), none), (A.v (V.one (L.s (S.sc (Value.int IntKind.i64 x1)))), none), (A.v (V.one (L.s (S.sc (Value.int IntKind.u64 x2)))), none), (A.v (V.one (L.s (S.sc (Value.int IntKind.u64 x3)))), none)]
noncomputable def J15 (x0 : Int) (x1 : Int) (x2 : Int) : Option (List D) := ctO E Go.Proofs.Tryz.f12 cod 15 [(A.v (V.one (L.s (S.sc (Value.int IntKind.i64 x0)))), none), (A.v (V.one (L.s (S.sc (Value.int IntKind.i64 x1)))), none), (A.v (V.one (L.s (S.sc (Value.int IntKind.u64 x2)))), none)]
theorem start (a : Int) (b : Int) (c : Int) : evalFn E Go.Proofs.Tryz.f12 cod [D.s (S.sc (Value.int IntKind.i64 a)), D.s (S.sc (Value.int IntKind.i64 b)), D.s (S.sc (Value.int IntKind.u64 c))] = gif True (vlet (BShape.shp a).snd.snd.snd fun y0 => vlet (bif BQuiet.fmtB a then (0 : Int) else (1 : Int)) fun y1 => bcase (y1 != (0 : Int)) (some [D.s (S.sc (Value.int IntKind.u64 (0 : Int))), D.s (S.sc (Value.bool false)), D.s (S.sc (Value.int IntKind.i64 (1 : Int)))]) (gif True (bcase (!UKnown.knownB b) (some [D.s (S.sc (Value.int IntKind.u64 (0 : Int))), D.s (S.sc (Value.bool false)), D.s (S.sc (Value.int IntKind.i64 (1 : Int)))]) (UExact.J4 a b c y0)))) := (evalFn_J rfl nok _).trans (by kernel_rfl)
theorem J4_eq (x0 : Int) (x1 : Int) (x2 : Int) (x3 : Int) : J4 x0 x1 x2 x3 = gif ((x0 = (32 : Int) ∨ x0 = (64 : Int)) ∧ (0 : Int) ≤ x2 ∧ x2 < (18446744073709551616 : Int)) (vlet (bif BTake.patB x0 x2 then BClass.classV (BShape.shp x0) (x2 % BSign.signV (BShape.shp x0)) else (0 : Int)) fun y2 => vlet (bif BTake.patB x0 x2 then (0 : Int) else (2 : Int)) fun y3 => bcase (y3 != (0 : Int)) (some [D.s (S.sc (Value.int IntKind.u64 (0 : Int))), D.s (S.sc (Value.bool false)), D.s (S.sc (Value.int IntKind.i64 y3))]) (bcase (y2 == (4 : Int)) (some [D.s (S.sc (Value.int IntKind.u64 x3)), D.s (S.sc (Value.bool true)), D.s (S.sc (Value.int IntKind.i64 (0 : Int)))]) (bcase (y2 == (3 : Int)) (some [D.s (S.sc (Value.int IntKind.u64 x3)), D.s (S.sc (Value.bool true)), D.s (S.sc (Value.int IntKind.i64 (0 : Int)))]) (bcase (y2 == (0 : Int)) (bcase (x1 == (5 : Int)) (gif ((x0 = (32 : Int) ∨ x0 = (64 : Int)) ∧ ((1 : Int) = (0 : Int) ∨ (1 : Int) = (1 : Int) ∨ (1 : Int) = (2 : Int))) (vlet (UPattern.patV x0 (1 : Int) false) fun y4 => some [D.s (S.sc (Value.int IntKind.u64 y4)), D.s (S.sc (Value.bool true)), D.s (S.sc (Value.int IntKind.i64 (0 : Int)))])) (some [D.s (S.sc (Value.int IntKind.u64 x2)), D.s (S.sc (Value.bool true)), D.s (S.sc (Value.int IntKind.i64 (0 : Int)))])) (UExact.J15 x0 x1 x2))))) := (cutAt_J rfl nok 4 _).trans (by kernel_rfl)
theorem J15_eq (x0 : Int) (x1 : Int) (x2 : Int) : J15 x0 x1 x2 = gif ((x0 = (32 : Int) ∨ x0 = (64 : Int)) ∧ (0 : Int) ≤ x2 ∧ x2 < (18446744073709551616 : Int)) (vlet (isNeg (bif BTake.patB x0 x2 && BFinite.finB x0 x2 then nrmD (BValue.valZ x0 x2) (BValue.valE x0 x2) else ((0 : Int), (0 : Int))).fst) fun y5 => vlet (M6.dg (bif BTake.patB x0 x2 && BFinite.finB x0 x2 then nrmD (BValue.valZ x0 x2) (BValue.valE x0 x2) else ((0 : Int), (0 : Int))).fst.natAbs) fun y6 => vlet (bif BTake.patB x0 x2 && BFinite.finB x0 x2 then nrmD (BValue.valZ x0 x2) (BValue.valE x0 x2) else ((0 : Int), (0 : Int))).snd fun y7 => gif (DyOk (y5, y6, y7)) (vlet (UExact0.exV x1 (dv (y5, y6, y7))).fst fun y9 => vlet (UExact0.exV x1 (dv (y5, y6, y7))).snd.fst fun y10 => vlet (UExact0.exV x1 (dv (y5, y6, y7))).snd.snd fun y11 => bcase (!y11) (some [D.s (S.sc (Value.int IntKind.u64 (0 : Int))), D.s (S.sc (Value.bool false)), D.s (S.sc (Value.int IntKind.i64 (0 : Int)))]) (gif ((x0 = (32 : Int) ∨ x0 = (64 : Int)) ∧ ((y9, y10).fst = (0 : Int) ∨ (y9, y10).fst = (1 : Int) ∨ (y9, y10).fst = (2 : Int))) (vlet (UPattern.patV x0 (y9, y10).fst (y9, y10).snd) fun y12 => some [D.s (S.sc (Value.int IntKind.u64 y12)), D.s (S.sc (Value.bool true)), D.s (S.sc (Value.int IntKind.i64 (0 : Int)))])))) := (cutAt_J rfl nok 15 _).trans (by kernel_rfl)
-- stuck: 0
end UExact
namespace UExact
/-- The number of a finite pattern. -/
def numF (f b : Int) : Int × Int := nrmD (BValue.valZ f b) (BValue.valE f b)
theorem numF_pin {f b : Int} (h : f = 32 ∨ f = 64) (_ : 0 ≤ b) (hf : BFinite.finB f b = true) : PIn (numF f b) ∧ (BValue.valZ f b).natAbs < 2 ^ 53 ∧ -1074 ≤ BValue.valE f b ∧ BValue.valE f b ≤ 1023 := by
  have hs := BFinite.two_shp h
  have hn0 : 0 ≤ b % BSign.signV (BShape.shp f) := by unfold BSign.signV; split <;> omega
  have hfin : b % BSign.signV (BShape.shp f) < BInf.infV (BShape.shp f) := of_decide_eq_true hf
  have hm := BValue.man_lt hs hn0
  have hx := BValue.exp_lt hs hn0 hfin
  have hz : (BValue.valZ f b).natAbs < 2 ^ 53 := by
    unfold BValue.valZ
    rw [zs_abs]
    omega
  have he : -1074 ≤ BValue.valE f b ∧ BValue.valE f b ≤ 1023 := ⟨hx.1, by unfold BValue.valE; omega⟩
  have hb : bl (BValue.valZ f b).natAbs ≤ 53 := bl_le.2 hz
  exact ⟨pin_nrm (inD_of (by omega) (by omega)) (by omega), hz, he⟩
/-- Exact's answer. -/
def exactR (f fn b : Int) : Int × Bool × Int :=
  if BQuiet.fmtB f = false ∨ UKnown.knownB fn = false then (0, false, 1)
  else if BTake.patB f b = false then (0, false, 2)
  else if BClass.classV (BShape.shp f) (b % BSign.signV (BShape.shp f)) = 4 ∨ BClass.classV (BShape.shp f) (b % BSign.signV (BShape.shp f)) = 3 then ((BShape.shp f).2.2.2, true, 0)
  else if BClass.classV (BShape.shp f) (b % BSign.signV (BShape.shp f)) = 0 then (if fn = 5 then UPattern.patV f 1 false else b, true, 0)
  else if (UExact0.exV fn (numF f b)).2.2 = true then (UPattern.patV f (UExact0.exV fn (numF f b)).1 (UExact0.exV fn (numF f b)).2.1, true, 0)
  else (0, false, 0)
noncomputable def sp (f fn b : Int) : Prop × List D := (0 ≤ b ∧ b < 18446744073709551616, [.s (.sc (.int .u64 (exactR f fn b).1)), .s (.sc (.bool (exactR f fn b).2.1)), .s (.sc (.int .i64 (exactR f fn b).2.2))])
theorem ex_size (fn : Int) (p : Int × Int) : (UExact0.exV fn p).1 = 0 ∨ (UExact0.exV fn p).1 = 1 ∨ (UExact0.exV fn p).1 = 2 := by
  unfold UExact0.exV
  repeat' split
  all_goals simp
theorem class_fin {f b : Int} (h : f = 32 ∨ f = 64) (c3 : BClass.classV (BShape.shp f) (b % BSign.signV (BShape.shp f)) ≠ 3) (c4 : BClass.classV (BShape.shp f) (b % BSign.signV (BShape.shp f)) ≠ 4) : BFinite.finB f b = true := by
  unfold BFinite.finB
  have hi : BHidden.hidV (BShape.shp f) < BInf.infV (BShape.shp f) ∧ 0 < BHidden.hidV (BShape.shp f) := by
    rcases h with rfl | rfl
    · exact ⟨by show (8388608 : Int) < 2139095040; omega, by show (0 : Int) < 8388608; omega⟩
    · exact ⟨by show (4503599627370496 : Int) < 9218868437227405312; omega, by show (0 : Int) < 4503599627370496; omega⟩
  generalize b % BSign.signV (BShape.shp f) = n at *
  refine decide_eq_true ?_
  unfold BClass.classV at c3 c4
  by_cases h0 : n = 0
  · omega
  · by_cases h1 : n < BHidden.hidV (BShape.shp f)
    · omega
    · by_cases h2 : n < BInf.infV (BShape.shp f)
      · exact h2
      · rw [if_neg h0, if_neg h1, if_neg h2] at c3 c4
        by_cases h3 : n = BInf.infV (BShape.shp f)
        · rw [if_pos h3] at c3; exact (c3 rfl).elim
        · rw [if_neg h3] at c4; exact (c4 rfl).elim
theorem spec (f fn b : Int) (h : (sp f fn b).1) : evalFn E Tryz.f12 cod [(pN .i64).put f, (pN .i64).put fn, (pN .u64).put b] = some (sp f fn b).2 := by
  have h : 0 ≤ b ∧ b < 18446744073709551616 := h
  refine (start f fn b).trans ((gP trivial).trans ?_)
  rw [vl, vl, gP trivial]
  unfold sp exactR
  cases hq : BQuiet.fmtB f with
  | false => rw [if_pos (.inl rfl)]; rfl
  | true =>
    have hf : f = 32 ∨ f = 64 := of_decide_eq_true hq
    rw [cond_true, bN_neg rfl]
    cases hk : UKnown.knownB fn with
    | false => rw [if_pos (.inr rfl)]; rfl
    | true =>
      rw [if_neg (by simp), Bool.not_true, bF, J4_eq, gP ⟨hf, h⟩, vl, vl]
      cases hp : BTake.patB f b with
      | false => rw [if_pos rfl]; rfl
      | true =>
        rw [if_neg (by simp), cond_true, cond_true, bN_neg rfl]
        by_cases c4 : BClass.classV (BShape.shp f) (b % BSign.signV (BShape.shp f)) = 4
        · rw [bE_pos c4, if_pos (.inl c4)]
        · rw [bE_neg c4]
          by_cases c3 : BClass.classV (BShape.shp f) (b % BSign.signV (BShape.shp f)) = 3
          · rw [bE_pos c3, if_pos (.inr c3)]
          · rw [bE_neg c3, if_neg (fun h => h.elim c4 c3)]
            have hfin := class_fin hf c3 c4
            by_cases c0 : BClass.classV (BShape.shp f) (b % BSign.signV (BShape.shp f)) = 0
            · rw [bE_pos c0, if_pos c0]
              by_cases h5 : fn = 5
              · rw [bE_pos h5, if_pos h5, gP ⟨hf, .inr (.inl rfl)⟩]; rfl
              · rw [bE_neg h5, if_neg h5]
            · rw [bE_neg c0, if_neg c0, J15_eq, gP ⟨hf, h⟩]
              have e1 : (bif BTake.patB f b && BFinite.finB f b then nrmD (BValue.valZ f b) (BValue.valE f b) else ((0 : Int), (0 : Int))) = numF f b := by rw [hp, hfin]; rfl
              rw [e1, vl_dy, gP (dyok_of (numF_pin hf h.1 hfin).1), dv_cells, vl, vl, vl]
              cases hv : (UExact0.exV fn (numF f b)).2.2 with
              | false => rw [if_neg (by simp)]; rfl
              | true => rw [if_pos rfl, Bool.not_true, bF, gP ⟨hf, ex_size _ _⟩]; rfl

noncomputable def orc : Orc := orc3 (pN .i64) (pN .i64) (pN .u64) sp
theorem fnok : FnOk Tryz.prog E 12 Tryz.f12 cod := fnOk ty_ok mixed (callsOk_of _ rfl (orcs_cons BQuiet.ok (orcs_cons UKnown.ok (orcs_cons BClassOf.ok (orcs_cons UPattern.ok (orcs_cons BValue.ok (orcs_cons UExact0.ok orcs_nil)))))) (ext_ok)) Tryz.func12 rfl rfl rfl
theorem ok : OrcOk Tryz.prog base.glob 12 orc := fnok.ok3 rfl spec
end UExact
end Go.Proofs.YtfebndgmmekmgaaGreatDoor.W

/- gnomon/turn.point -/
namespace Go.Proofs.YtfebndgmmekmgaaGreatDoor.W
open Go Go.Proofs.YtfebndgmmekmgaaGreatDoor.AI Go.Proofs.YtfebndgmmekmgaaGreatDoor.M
namespace UPoint
noncomputable def E : Env := { ({ base with C := callsOf [(32, UDyad.orc)] }) with nt := 8, own := [], keep := fun k => (tlook [] k).getD [], cut := tlook [] }
noncomputable def cod : Code := (Go.Proofs.Tryz.f70.body).getD .skip
theorem nok : namesOk E cod = true := by kernel_rfl
theorem start (a : Int) : evalFn E Go.Proofs.Tryz.f70 cod [D.s (S.sc (Value.int IntKind.i64 a))] = gif (((-9223372036854775808 : Int) ≤ a ∧ a < (9223372036854775808 : Int)) ∧ (-9223372036854775808 : Int) ≤ (0 : Int) ∧ (0 : Int) < (9223372036854775808 : Int)) (gif (((-9223372036854775808 : Int) ≤ a ∧ a < (9223372036854775808 : Int)) ∧ (-9223372036854775808 : Int) ≤ (0 : Int) ∧ (0 : Int) < (9223372036854775808 : Int)) (some [D.agg [S.sc (Value.bool (isNeg (bif inD a (0 : Int) then nrmD a (0 : Int) else ((0 : Int), (0 : Int))).fst)), S.ints IntKind.u64 (M6.dg (bif inD a (0 : Int) then nrmD a (0 : Int) else ((0 : Int), (0 : Int))).fst.natAbs), S.sc (Value.int IntKind.i64 (bif inD a (0 : Int) then nrmD a (0 : Int) else ((0 : Int), (0 : Int))).snd), S.sc (Value.bool (isNeg (bif inD a (0 : Int) then nrmD a (0 : Int) else ((0 : Int), (0 : Int))).fst)), S.ints IntKind.u64 (M6.dg (bif inD a (0 : Int) then nrmD a (0 : Int) else ((0 : Int), (0 : Int))).fst.natAbs), S.sc (Value.int IntKind.i64 (bif inD a (0 : Int) then nrmD a (0 : Int) else ((0 : Int), (0 : Int))).snd)]])) := (evalFn_J rfl nok _).trans (by kernel_rfl)
-- stuck: 0
end UPoint
namespace UPoint
/-- The span of a small whole number, as it lies. -/
def sD (p q : Int × Int) : D := .agg [.sc (.bool (isNeg p.1)), .ints .u64 (M6.dg p.1.natAbs), .sc (.int .i64 p.2), .sc (.bool (isNeg q.1)), .ints .u64 (M6.dg q.1.natAbs), .sc (.int .i64 q.2)]
noncomputable def sp (m : Int) : Prop × List D := (-9223372036854775808 ≤ m ∧ m < 9223372036854775808, [sD (nrmD m 0) (nrmD m 0)])
theorem spec (m : Int) (h : (sp m).1) : evalFn E Tryz.f70 cod [(pN .i64).put m] = some (sp m).2 := by
  have h : -9223372036854775808 ≤ m ∧ m < 9223372036854775808 := h
  refine (start m).trans ?_
  have hb : bl m.natAbs ≤ 64 := bl_le.2 (by omega)
  rw [gP ⟨h, by omega, by omega⟩, gP ⟨h, by omega, by omega⟩]
  have e : (bif inD m 0 then nrmD m 0 else ((0 : Int), (0 : Int))) = nrmD m 0 := by rw [inD_of (by omega) (by omega)]; rfl
  rw [e]
  rfl

noncomputable def orc : Orc := orc1 (pN .i64) sp
theorem fnok : FnOk Tryz.prog E 70 Tryz.f70 cod := fnOk ty_ok mixed (callsOk_of _ rfl (orcs_cons UDyad.ok orcs_nil) (ext_ok)) Tryz.func70 rfl rfl rfl
theorem ok : OrcOk Tryz.prog base.glob 70 orc := fnok.ok1 rfl spec
end UPoint
end Go.Proofs.YtfebndgmmekmgaaGreatDoor.W

/- gnomon/turn.Enclose -/
namespace Go.Proofs.YtfebndgmmekmgaaGreatDoor.W
open Go Go.Proofs.YtfebndgmmekmgaaGreatDoor.AI Go.Proofs.YtfebndgmmekmgaaGreatDoor.M
namespace UEnclose
noncomputable def E : Env := { ({ base with C := callsOf [(40, UKnown.orc), (15, BValue.orc), (70, UPoint.orc), (43, UExact0.orc)] }) with nt := 98, own := [33], keep := fun k => (tlook [] k).getD [], cut := tlook [(3, [0, 1, 2, 6])] }
noncomputable def cod : Code := (Go.Proofs.Tryz.f28.body).getD .skip
theorem nok : namesOk E cod = true := by kernel_rfl
noncomputable def J3 (x0 : Int) (x1 : Int) (x2 : Int) (b3 : Bool) (x4 : Int) (b5 : Bool) (x6 : Int) : Option (List D) := ctO E Go.Proofs.Tryz.f28 cod 3 [(A.v (V.one (L.s (S.sc (Value.int IntKind.i64 x0)))), none), (A.v (V.one (L.s (S.sc (Value.int IntKind.u64 x1)))), none), (A.v (V.one (L.s (S.sc (Value.int IntKind.i64 x2)))), none), (A.v (V.one (L.ptr (3 : Nat) (0 : Nat))), some { e := (67 : Nat), cont := Cont.cells [S.sc (Value.bool b3), S.sc (Value.slice none (0 : Nat) (0 : Nat)), S.sc (Value.int IntKind.i64 x4), S.sc (Value.bool b5), S.sc (Value.slice none (0 : Nat) (0 : Nat)), S.sc (Value.int IntKind.i64 x6)] })]
theorem start (a : Int) (b : Int) (c : Int) : evalFn E Go.Proofs.Tryz.f28 cod [D.s (S.sc (Value.int IntKind.i64 a)), D.s (S.sc (Value.int IntKind.u64 b)), D.s (S.sc (Value.int IntKind.i64 c))] = gif True (bcase (!UKnown.knownB a) (some [D.agg [S.sc (Value.bool false), S.sc (Value.slice none (0 : Nat) (0 : Nat)), S.sc (Value.int IntKind.i64 (0 : Int)), S.sc (Value.bool false), S.sc (Value.slice none (0 : Nat) (0 : Nat)), S.sc (Value.int IntKind.i64 (0 : Int))], D.s (S.sc (Value.int IntKind.i64 (1 : Int)))]) (bcase (decide (c < (1 : Int))) (some [D.agg [S.sc (Value.bool false), S.sc (Value.slice none (0 : Nat) (0 : Nat)), S.sc (Value.int IntKind.i64 (0 : Int)), S.sc (Value.bool false), S.sc (Value.slice none (0 : Nat) (0 : Nat)), S.sc (Value.int IntKind.i64 (0 : Int))], D.s (S.sc (Value.int IntKind.i64 (1 : Int)))]) (bcase (decide ((66000 : Int) < c)) (some [D.agg [S.sc (Value.bool false), S.sc (Value.slice none (0 : Nat) (0 : Nat)), S.sc (Value.int IntKind.i64 (0 : Int)), S.sc (Value.bool false), S.sc (Value.slice none (0 : Nat) (0 : Nat)), S.sc (Value.int IntKind.i64 (0 : Int))], D.s (S.sc (Value.int IntKind.i64 (1 : Int)))]) (UEnclose.J3 a b c false (0 : Int) false (0 : Int))))) := (evalFn_J rfl nok _).trans (by kernel_rfl)
theorem J3_eq (x0 : Int) (x1 : Int) (x2 : Int) (b3 : Bool) (x4 : Int) (b5 : Bool) (x6 : Int) : J3 x0 x1 x2 b3 x4 b5 x6 = gif (((64 : Int) = (32 : Int) ∨ (64 : Int) = (64 : Int)) ∧ (0 : Int) ≤ x1 ∧ x1 < (18446744073709551616 : Int))
  (vlet (isNeg (bif BTake.patB (64 : Int) x1 && BFinite.finB (64 : Int) x1 then nrmD (BValue.valZ (64 : Int) x1) (BValue.valE (64 : Int) x1) else ((0 : Int), (0 : Int))).fst) fun y0 ↦
    vlet (M6.dg (bif BTake.patB (64 : Int) x1 && BFinite.finB (64 : Int) x1 then nrmD (BValue.valZ (64 : Int) x1) (BValue.valE (64 : Int) x1) else ((0 : Int), (0 : Int))).fst.natAbs) fun y1 ↦
      vlet (bif BTake.patB (64 : Int) x1 && BFinite.finB (64 : Int) x1 then nrmD (BValue.valZ (64 : Int) x1) (BValue.valE (64 : Int) x1) else ((0 : Int), (0 : Int))).snd fun y2 => vlet (bif BTake.patB (64 : Int) x1 then bif BFinite.finB (64 : Int) x1 then (0 : Int) else (6 : Int) else (2 : Int)) fun y3 => bcase (y3 != (0 : Int)) (some [D.agg [S.sc (Value.bool false), S.sc (Value.slice none (0 : Nat) (0 : Nat)), S.sc (Value.int IntKind.i64 (0 : Int)), S.sc (Value.bool false), S.sc (Value.slice none (0 : Nat) (0 : Nat)), S.sc (Value.int IntKind.i64 (0 : Int))], D.s (S.sc (Value.int IntKind.i64 y3))]) (bcase ((↑y1.length : Int) == (0 : Int)) (bcase (x0 == (5 : Int)) (gif ((-9223372036854775808 : Int) ≤ (1 : Int) ∧ (1 : Int) < (9223372036854775808 : Int)) (vlet (isNeg (nrmD (1 : Int) (0 : Int)).fst) fun y4 => vlet (M6.dg (nrmD (1 : Int) (0 : Int)).fst.natAbs) fun y5 => vlet (nrmD (1 : Int) (0 : Int)).snd fun y6 => vlet (isNeg (nrmD (1 : Int) (0 : Int)).fst) fun y7 => vlet (M6.dg (nrmD (1 : Int) (0 : Int)).fst.natAbs) fun y8 => vlet (nrmD (1 : Int) (0 : Int)).snd fun y9 => some [D.agg [S.sc (Value.bool y4), S.ints IntKind.u64 y5, S.sc (Value.int IntKind.i64 y6), S.sc (Value.bool y7), S.ints IntKind.u64 y8, S.sc (Value.int IntKind.i64 y9)], D.s (S.sc (Value.int IntKind.i64 (0 : Int)))])) (gif ((-9223372036854775808 : Int) ≤ (0 : Int) ∧ (0 : Int) < (9223372036854775808 : Int)) (vlet (isNeg (nrmD (0 : Int) (0 : Int)).fst) fun y10 => vlet (M6.dg (nrmD (0 : Int) (0 : Int)).fst.natAbs) fun y11 => vlet (nrmD (0 : Int) (0 : Int)).snd fun y12 => vlet (isNeg (nrmD (0 : Int) (0 : Int)).fst) fun y13 => vlet (M6.dg (nrmD (0 : Int) (0 : Int)).fst.natAbs) fun y14 => vlet (nrmD (0 : Int) (0 : Int)).snd fun y15 => some [D.agg [S.sc (Value.bool y10), S.ints IntKind.u64 y11, S.sc (Value.int IntKind.i64 y12), S.sc (Value.bool y13), S.ints IntKind.u64 y14, S.sc (Value.int IntKind.i64 y15)], D.s (S.sc (Value.int IntKind.i64 (0 : Int)))]))) (gif (DyOk (y0, y1, y2)) (vlet (UExact0.exV x0 (dv (y0, y1, y2))).fst fun y16 => vlet (UExact0.exV x0 (dv (y0, y1, y2))).snd.fst fun y17 => vlet (UExact0.exV x0 (dv (y0, y1, y2))).snd.snd fun y18 => bcase y18 (bcase (y16 == (2 : Int)) (some [D.agg [S.sc (Value.bool false), S.sc (Value.slice none (0 : Nat) (0 : Nat)), S.sc (Value.int IntKind.i64 (0 : Int)), S.sc (Value.bool false), S.sc (Value.slice none (0 : Nat) (0 : Nat)), S.sc (Value.int IntKind.i64 (0 : Int))], D.s (S.sc (Value.int IntKind.i64 (6 : Int)))]) (bcase y17 (gif ((-9223372036854775808 : Int) ≤ IntKind.i64.wrap ((0 : Int) - y16) ∧ IntKind.i64.wrap ((0 : Int) - y16) < (9223372036854775808 : Int)) (vlet (isNeg (nrmD (IntKind.i64.wrap ((0 : Int) - y16)) (0 : Int)).fst) fun y19 => vlet (M6.dg (nrmD (IntKind.i64.wrap ((0 : Int) - y16)) (0 : Int)).fst.natAbs) fun y20 => vlet (nrmD (IntKind.i64.wrap ((0 : Int) - y16)) (0 : Int)).snd fun y21 => vlet (isNeg (nrmD (IntKind.i64.wrap ((0 : Int) - y16)) (0 : Int)).fst) fun y22 => vlet (M6.dg (nrmD (IntKind.i64.wrap ((0 : Int) - y16)) (0 : Int)).fst.natAbs) fun y23 => vlet (nrmD (IntKind.i64.wrap ((0 : Int) - y16)) (0 : Int)).snd fun y24 => some [D.agg [S.sc (Value.bool y19), S.ints IntKind.u64 y20, S.sc (Value.int IntKind.i64 y21), S.sc (Value.bool y22), S.ints IntKind.u64 y23, S.sc (Value.int IntKind.i64 y24)], D.s (S.sc (Value.int IntKind.i64 (0 : Int)))])) (gif ((-9223372036854775808 : Int) ≤ y16 ∧ y16 < (9223372036854775808 : Int)) (vlet (isNeg (nrmD y16 (0 : Int)).fst) fun y25 => vlet (M6.dg (nrmD y16 (0 : Int)).fst.natAbs) fun y26 => vlet (nrmD y16 (0 : Int)).snd fun y27 => vlet (isNeg (nrmD y16 (0 : Int)).fst) fun y28 => vlet (M6.dg (nrmD y16 (0 : Int)).fst.natAbs) fun y29 => vlet (nrmD y16 (0 : Int)).snd fun y30 => some [D.agg [S.sc (Value.bool y25), S.ints IntKind.u64 y26, S.sc (Value.int IntKind.i64 y27), S.sc (Value.bool y28), S.ints IntKind.u64 y29, S.sc (Value.int IntKind.i64 y30)], D.s (S.sc (Value.int IntKind.i64 (0 : Int)))])))) none)))) := (cutAt_J rfl nok 3 _).trans (by kernel_rfl)
-- stuck: 0
end UEnclose
namespace UEnclose
/-- A span and an error, of an exact case. -/
def encV (fn : Int) (b : Int) : Int := if (UExact.numF 64 b).1 = 0 then (if fn = 5 then 1 else 0) else if (UExact0.exV fn (UExact.numF 64 b)).2.1 = true then -(UExact0.exV fn (UExact.numF 64 b)).1 else (UExact0.exV fn (UExact.numF 64 b)).1
/-- An exact case that is no pole. -/
def EncIn (fn b p : Int) : Prop := UKnown.knownB fn = true ∧ 1 ≤ p ∧ p ≤ 66000 ∧ BFinite.finB 64 b = true ∧ ((UExact.numF 64 b).1 ≠ 0 → (UExact0.exV fn (UExact.numF 64 b)).2.2 = true ∧ (UExact0.exV fn (UExact.numF 64 b)).1 ≠ 2)
noncomputable def sp (fn b p : Int) : Prop × List D := ((0 ≤ b ∧ b < 18446744073709551616) ∧ EncIn fn b p, [UPoint.sD (nrmD (encV fn b) 0) (nrmD (encV fn b) 0), .s (.sc (.int .i64 0))])
theorem spec (fn b p : Int) (h : (sp fn b p).1) : evalFn E Tryz.f28 cod [(pN .i64).put fn, (pN .u64).put b, (pN .i64).put p] = some (sp fn b p).2 := by
  obtain ⟨h, hk, hp1, hp2, hf, hx⟩ := h
  refine (start fn b p).trans ((gP trivial).trans ?_)
  have hp : BTake.patB 64 b = true := rfl
  have e1 : (bif BTake.patB 64 b && BFinite.finB 64 b then nrmD (BValue.valZ 64 b) (BValue.valE 64 b) else ((0 : Int), (0 : Int))) = UExact.numF 64 b := by rw [hp, hf]; rfl
  have e2 : (bif BTake.patB 64 b then bif BFinite.finB 64 b then (0 : Int) else 6 else 2) = 0 := by rw [hp, hf]; rfl
  rw [hk, Bool.not_true, bF, bD_neg (by omega), bD_neg (by omega), J3_eq, gP ⟨.inr rfl, h⟩, e1, e2, vl_dy, vl, bN_neg rfl]
  have hpin := (UExact.numF_pin (.inr rfl) h.1 hf).1
  unfold sp encV
  dsimp only
  generalize UExact.numF 64 b = q at *
  have hl : (M6.dg q.1.natAbs).length = 0 ↔ q.1 = 0 := by rw [M6.dg_len_zero]; omega
  by_cases hz : q.1 = 0
  · rw [bE_pos (by have := hl.2 hz; omega), if_pos hz]
    by_cases h5 : fn = 5
    · rw [bE_pos h5, if_pos h5, gP (by omega)]; rfl
    · rw [bE_neg h5, if_neg h5, gP (by omega)]; rfl
  · obtain ⟨hx1, hx2⟩ := hx hz
    have hs := UExact.ex_size fn q
    rw [bE_neg (fun h => hz (hl.1 (by omega))), if_neg hz, gP (dyok_of hpin), dv_cells, vl, vl, vl, hx1, bT, bE_neg hx2]
    cases hn : (UExact0.exV fn q).2.1 with
    | false => rw [bF, if_neg (by simp), gP (by omega)]; rfl
    | true => rw [bT, if_pos rfl, wrap_i64 (n := 0 - (UExact0.exV fn q).1) (by omega) (by omega), Int.zero_sub, gP (by omega)]; rfl

noncomputable def orc : Orc := orc3 (pN .i64) (pN .u64) (pN .i64) sp
theorem fnok : FnOk Tryz.prog E 28 Tryz.f28 cod := fnOk ty_ok mixed (callsOk_of _ rfl (orcs_cons UKnown.ok (orcs_cons BValue.ok (orcs_cons UPoint.ok (orcs_cons UExact0.ok orcs_nil)))) (ext_ok)) Tryz.func28 rfl rfl rfl
theorem ok : OrcOk Tryz.prog base.glob 28 orc := fnok.ok3 rfl spec
end UEnclose
end Go.Proofs.YtfebndgmmekmgaaGreatDoor.W

/- gnomon/gnomonref01.Same -/
namespace Go.Proofs.YtfebndgmmekmgaaGreatDoor.W
open Go Go.Proofs.YtfebndgmmekmgaaGreatDoor.AI Go.Proofs.YtfebndgmmekmgaaGreatDoor.M
namespace Same
noncomputable def E : Env := { (base) with nt := 26, own := [], keep := fun k => (tlook [(4, [0, 1, 5])] k).getD [], cut := tlook [] }
noncomputable def cod : Code := (Go.Proofs.Tryz.f39.body).getD .skip
theorem nok : namesOk E cod = true := by kernel_rfl
noncomputable def L4 (xs0 : List Int) (xs1 : List Int) (x2 : Int) : Option (List D) := lpO E Go.Proofs.Tryz.f39 cod 4 [(A.v (V.one (L.s (S.ints IntKind.u64 xs0))), none), (A.v (V.one (L.s (S.ints IntKind.u64 xs1))), none), (A.v (V.one (L.s (S.sc (Value.int IntKind.i64 x2)))), none)]
theorem start (a : List Int) (b : List Int) : evalFn E Go.Proofs.Tryz.f39 cod [D.s (S.ints IntKind.u64 a), D.s (S.ints IntKind.u64 b)] = bcase ((↑a.length : Int) != (↑b.length : Int)) (some [D.s (S.sc (Value.bool false))]) (Same.L4 a b (0 : Int)) := (evalFn_J rfl nok _).trans (by kernel_rfl)
theorem L4_eq (xs0 : List Int) (xs1 : List Int) (x2 : Int) : L4 xs0 xs1 x2 = bcase (decide (x2 < (↑xs0.length : Int))) (if (0 : Int) ≤ x2 ∧ x2 < (↑xs0.length : Int) then if (0 : Int) ≤ x2 ∧ x2 < (↑xs1.length : Int) then bcase (xs0.getD x2.toNat (0 : Int) != xs1.getD x2.toNat (0 : Int)) (some [D.s (S.sc (Value.bool false))]) (Same.L4 xs0 xs1 (IntKind.i64.wrap (x2 + (1 : Int)))) else none else none) (some [D.s (S.sc (Value.bool true))]) := (loopAt_J rfl nok 4 _).trans (by kernel_rfl)
-- stuck: 0
end Same
namespace Same
theorem L {a b : List Int} (hl : a.length = b.length) (h : a.length ≤ 4398046511104) : ∀ (d i : Nat), i + d = a.length → a.take i = b.take i → L4 a b (i : Int) = some [D.s (.sc (.bool (decide (a = b))))] := by
  intro d
  induction d with
  | zero =>
    intro i hd hv
    rw [List.take_of_length_le (by omega), List.take_of_length_le (by omega)] at hv
    rw [L4_eq, bD_neg (by omega), decide_eq_true hv]
  | succ d ih =>
    intro i hd hv
    rw [L4_eq, bD_pos (by omega), if_pos (by omega), if_pos (by omega), Int.toNat_natCast]
    have ga : a.getD i 0 = a[i]'(by omega) := by simp [List.getD_eq_getElem?_getD, show i < a.length by omega]
    have gb : b.getD i 0 = b[i]'(by omega) := by simp [List.getD_eq_getElem?_getD, show i < b.length by omega]
    by_cases hc : a.getD i 0 = b.getD i 0
    · rw [bN_neg hc, wrap_i64 (by omega) (by omega)]
      refine ih (i + 1) (by omega) ?_
      rw [List.take_succ_eq_append_getElem (by omega), List.take_succ_eq_append_getElem (by omega), hv, ← ga, ← gb, hc]
    · rw [bN_pos hc, decide_eq_false (fun h => hc (by rw [h]))]
noncomputable def sp (a b : List Int) : Prop × List D := (a.length ≤ 4398046511104 ∧ b.length ≤ 4398046511104, [.s (.sc (.bool (decide (a = b))))])
theorem spec (a b : List Int) (h : (sp a b).1) : evalFn E Tryz.f39 cod [(pI .u64).put a, (pI .u64).put b] = some (sp a b).2 := by
  obtain ⟨h1, h2⟩ := h
  refine (start a b).trans ?_
  by_cases hl : a.length = b.length
  · rw [bN_neg (by omega)]
    exact L hl h1 a.length 0 (by omega) rfl
  · rw [bN_pos (by omega)]
    unfold sp
    rw [decide_eq_false (fun h => hl (by rw [h]))]

noncomputable def orc : Orc := orc2 (pI .u64) (pI .u64) sp
theorem fnok : FnOk Tryz.prog E 39 Tryz.f39 cod := fnOk ty_ok mixed (callsOk_of _ rfl orcs_nil (ext_ok)) Tryz.func39 rfl rfl rfl
theorem ok : OrcOk Tryz.prog base.glob 39 orc := fnok.ok2 rfl spec
end Same
end Go.Proofs.YtfebndgmmekmgaaGreatDoor.W

/- gnomon/gnomonref05.Same -/
namespace Go.Proofs.YtfebndgmmekmgaaGreatDoor.W
open Go Go.Proofs.YtfebndgmmekmgaaGreatDoor.AI Go.Proofs.YtfebndgmmekmgaaGreatDoor.M
namespace Same5
noncomputable def E : Env := { ({ base with C := callsOf [(39, Same.orc)] }) with nt := 28, own := [26], keep := fun k => (tlook [] k).getD [], cut := tlook [] }
noncomputable def cod : Code := (Go.Proofs.Tryz.f11.body).getD .skip
theorem nok : namesOk E cod = true := by kernel_rfl
theorem start (a1 : Bool) (a2 : List Int) (a3 : Int) (b1 : Bool) (b2 : List Int) (b3 : Int) : evalFn E Go.Proofs.Tryz.f11 cod [D.agg [S.sc (Value.bool a1), S.ints IntKind.u64 a2, S.sc (Value.int IntKind.i64 a3)], D.agg [S.sc (Value.bool b1), S.ints IntKind.u64 b2, S.sc (Value.int IntKind.i64 b3)]] = bcase (a1 == b1) (bcase (a3 == b3) (gif (a2.length ≤ (4398046511104 : Nat) ∧ b2.length ≤ (4398046511104 : Nat)) (some [D.s (S.sc (Value.bool (decide (a2 = b2))))])) (some [D.s (S.sc (Value.bool false))])) (some [D.s (S.sc (Value.bool false))]) := (evalFn_J rfl nok _).trans (by kernel_rfl)
-- stuck: 0
end Same5
namespace Same5
noncomputable def sp (x y : Bool × List Int × Int) : Prop × List D := (DyOk x ∧ DyOk y, [.s (.sc (.bool (decide (dv x = dv y))))])
theorem same_iff {x y : Bool × List Int × Int} (hx : DyOk x) (hy : DyOk y) : dv x = dv y ↔ x = y := by
  constructor
  · intro h
    have e := congrArg M.dD h
    rw [hx.dD, hy.dD] at e
    obtain ⟨b, a, e1⟩ := x
    obtain ⟨c, d, f⟩ := y
    simp at e
    obtain ⟨h1, h2, h3⟩ := e
    rw [h1, h2, h3]
  · intro h; rw [h]
theorem spec (x y : Bool × List Int × Int) (h : (sp x y).1) : evalFn E Tryz.f11 cod [(pG (.pair sB (.pair (sI .u64) (sN .i64)))).put x, (pG (.pair sB (.pair (sI .u64) (sN .i64)))).put y] = some (sp x y).2 := by
  obtain ⟨hx, hy⟩ := h
  refine (start x.1 x.2.1 x.2.2 y.1 y.2.1 y.2.2).trans ?_
  have lx := hx.len
  have ly := hy.len
  have hs := same_iff hx hy
  show _ = some [D.s (.sc (.bool (decide (dv x = dv y))))]
  obtain ⟨b, a, e⟩ := x
  obtain ⟨c, d, f⟩ := y
  dsimp only at *
  by_cases h1 : b = c
  · subst h1
    rw [bB_pos (by simp)]
    by_cases h2 : e = f
    · rw [bE_pos h2, gP (by omega)]
      subst h2
      by_cases h3 : a = d
      · rw [decide_eq_true h3, decide_eq_true (hs.2 (by rw [h3]))]
      · rw [decide_eq_false h3, decide_eq_false (fun h => h3 (by have := hs.1 h; simpa using this))]
    · rw [bE_neg h2, decide_eq_false (fun h => h2 (by have := hs.1 h; simp at this; exact this.2))]
  · rw [bB_neg (by simpa using h1), decide_eq_false (fun h => h1 (by have := hs.1 h; simp at this; exact this.1))]

noncomputable def orc : Orc := orc2 (pG (.pair sB (.pair (sI .u64) (sN .i64)))) (pG (.pair sB (.pair (sI .u64) (sN .i64)))) sp
theorem fnok : FnOk Tryz.prog E 11 Tryz.f11 cod := fnOk ty_ok mixed (callsOk_of _ rfl (orcs_cons Same.ok orcs_nil) (ext_ok)) Tryz.func11 rfl rfl rfl
theorem ok : OrcOk Tryz.prog base.glob 11 orc := fnok.ok2 rfl spec
end Same5
end Go.Proofs.YtfebndgmmekmgaaGreatDoor.W

/- gnomon/gnomonlaw17.same -/
namespace Go.Proofs.YtfebndgmmekmgaaGreatDoor.W
open Go Go.Proofs.YtfebndgmmekmgaaGreatDoor.AI Go.Proofs.YtfebndgmmekmgaaGreatDoor.M
namespace LSame
noncomputable def E : Env := { ({ base with C := callsOf [(11, Same5.orc)] }) with nt := 17, own := [15], keep := fun k => (tlook [] k).getD [], cut := tlook [] }
noncomputable def cod : Code := (Go.Proofs.Tryz.f29.body).getD .skip
theorem nok : namesOk E cod = true := by kernel_rfl
theorem start (a1 : Bool) (a2 : List Int) (a3 : Int) (a4 : Bool) (a5 : List Int) (a6 : Int) (b1 : Bool) (b2 : List Int) (b3 : Int) (b4 : Bool) (b5 : List Int) (b6 : Int) : evalFn E Go.Proofs.Tryz.f29 cod [D.agg [S.sc (Value.bool a1), S.ints IntKind.u64 a2, S.sc (Value.int IntKind.i64 a3), S.sc (Value.bool a4), S.ints IntKind.u64 a5, S.sc (Value.int IntKind.i64 a6)], D.agg [S.sc (Value.bool b1), S.ints IntKind.u64 b2, S.sc (Value.int IntKind.i64 b3), S.sc (Value.bool b4), S.ints IntKind.u64 b5, S.sc (Value.int IntKind.i64 b6)]] = gif (DyOk (a1, a2, a3) ∧ DyOk (b1, b2, b3)) (bcase (decide (dv (a1, a2, a3) = dv (b1, b2, b3))) (gif (DyOk (a4, a5, a6) ∧ DyOk (b4, b5, b6)) (some [D.s (S.sc (Value.bool (decide (dv (a4, a5, a6) = dv (b4, b5, b6)))))])) (some [D.s (S.sc (Value.bool false))])) := (evalFn_J rfl nok _).trans (by kernel_rfl)
-- stuck: 0
end LSame
namespace LSame
abbrev Spt := Bool × List Int × Int × Bool × List Int × Int
def lo (x : Spt) : Dyt := (x.1, x.2.1, x.2.2.1)
def hi (x : Spt) : Dyt := (x.2.2.2.1, x.2.2.2.2.1, x.2.2.2.2.2)
noncomputable def sp (x y : Spt) : Prop × List D := ((DyOk (lo x) ∧ DyOk (lo y)) ∧ DyOk (hi x) ∧ DyOk (hi y), [.s (.sc (.bool (decide (dv (lo x) = dv (lo y)) && decide (dv (hi x) = dv (hi y)))))])
theorem spec (x y : Spt) (h : (sp x y).1) : evalFn E Tryz.f29 cod [(pG (.pair sB (.pair (sI .u64) (.pair (sN .i64) (.pair sB (.pair (sI .u64) (sN .i64))))))).put x, (pG (.pair sB (.pair (sI .u64) (.pair (sN .i64) (.pair sB (.pair (sI .u64) (sN .i64))))))).put y] = some (sp x y).2 := by
  obtain ⟨h1, h2⟩ := h
  refine (start x.1 x.2.1 x.2.2.1 x.2.2.2.1 x.2.2.2.2.1 x.2.2.2.2.2 y.1 y.2.1 y.2.2.1 y.2.2.2.1 y.2.2.2.2.1 y.2.2.2.2.2).trans ((gP h1).trans ?_)
  by_cases hc : dv (lo x) = dv (lo y)
  · have : decide (dv (x.1, x.2.1, x.2.2.1) = dv (y.1, y.2.1, y.2.2.1)) = true := decide_eq_true hc
    rw [this, bT]
    refine (gP h2).trans ?_
    unfold sp
    rw [decide_eq_true hc, Bool.true_and]
    rfl
  · have : decide (dv (x.1, x.2.1, x.2.2.1) = dv (y.1, y.2.1, y.2.2.1)) = false := decide_eq_false hc
    rw [this, bF]
    unfold sp
    rw [decide_eq_false hc, Bool.false_and]

noncomputable def orc : Orc := orc2 (pG (.pair sB (.pair (sI .u64) (.pair (sN .i64) (.pair sB (.pair (sI .u64) (sN .i64))))))) (pG (.pair sB (.pair (sI .u64) (.pair (sN .i64) (.pair sB (.pair (sI .u64) (sN .i64))))))) sp
theorem fnok : FnOk Tryz.prog E 29 Tryz.f29 cod := fnOk ty_ok mixed (callsOk_of _ rfl (orcs_cons Same5.ok orcs_nil) (ext_ok)) Tryz.func29 rfl rfl rfl
theorem ok : OrcOk Tryz.prog base.glob 29 orc := fnok.ok2 rfl spec
end LSame
end Go.Proofs.YtfebndgmmekmgaaGreatDoor.W

/- gnomon/gnomonref01.Norm -/
namespace Go.Proofs.YtfebndgmmekmgaaGreatDoor.W
open Go Go.Proofs.YtfebndgmmekmgaaGreatDoor.AI Go.Proofs.YtfebndgmmekmgaaGreatDoor.M
namespace Norm
noncomputable def E : Env := { (base) with nt := 27, own := [], keep := fun k => (tlook [(2, [0, 3])] k).getD [], cut := tlook [(4, [0, 3])] }
noncomputable def cod : Code := (Go.Proofs.Tryz.f132.body).getD .skip
theorem nok : namesOk E cod = true := by kernel_rfl
noncomputable def L2 (xs0 : List Int) (x1 : Int) : Option (List D) := lpO E Go.Proofs.Tryz.f132 cod 2 [(A.v (V.one (L.s (S.ints IntKind.u32 xs0))), none), (A.v (V.one (L.s (S.sc (Value.int IntKind.i64 x1)))), none)]
noncomputable def J4 (xs0 : List Int) (x1 : Int) : Option (List D) := ctO E Go.Proofs.Tryz.f132 cod 4 [(A.v (V.one (L.s (S.ints IntKind.u32 xs0))), none), (A.v (V.one (L.s (S.sc (Value.int IntKind.i64 x1)))), none)]
theorem start (a : List Int) : evalFn E Go.Proofs.Tryz.f132 cod [D.s (S.ints IntKind.u32 a)] = Norm.L2 a (↑a.length : Int) := (evalFn_J rfl nok _).trans (by kernel_rfl)
theorem L2_eq (xs0 : List Int) (x1 : Int) : L2 xs0 x1 = bcase (decide ((0 : Int) < x1)) (if (0 : Int) ≤ IntKind.i64.wrap (x1 - (1 : Int)) ∧ IntKind.i64.wrap (x1 - (1 : Int)) < (↑xs0.length : Int) then bcase (xs0.getD (IntKind.i64.wrap (x1 - (1 : Int))).toNat (0 : Int) == (0 : Int)) (Norm.L2 xs0 (IntKind.i64.wrap (x1 - (1 : Int)))) (Norm.J4 xs0 x1) else none) (Norm.J4 xs0 x1) := (loopAt_J rfl nok 2 _).trans (by kernel_rfl)
theorem J4_eq (xs0 : List Int) (x1 : Int) : J4 xs0 x1 = if (0 : Int) ≤ x1 ∧ x1 ≤ x1 ∧ x1 ≤ (8796093022208 : Int) then if (0 : Int) ≤ (0 : Int) ∧ (0 : Int) ≤ x1 ∧ x1 ≤ (↑xs0.length : Int) then some [D.own (180 : Nat) IntKind.u32 (List.take x1.toNat (List.drop (0 : Nat) (List.take x1.toNat xs0)) ++ List.drop (min (List.drop (0 : Nat) (List.take x1.toNat xs0)).length x1.toNat) (List.replicate x1.toNat (0 : Int)))] else none else none := (cutAt_J rfl nok 4 _).trans (by kernel_rfl)
-- stuck: 0
end Norm
namespace Norm
theorem J {xs : List Int} {n : Nat} (h : n ≤ xs.length) (hl : xs.length ≤ 4398046511104) : J4 xs n = some [D.own tU32 .u32 (xs.take n)] := by
  rw [J4_eq, if_pos (by omega), if_pos (by omega)]
  simp only [Int.toNat_natCast]
  rw [copy_all h]

theorem L {xs : List Int} (hd : Dig xs) (hl : xs.length ≤ 4398046511104) : ∀ n : Nat, n ≤ xs.length → L2 xs n = some [D.own tU32 .u32 (dg (val (xs.take n)))]
  | 0, h => by
    rw [L2_eq]
    simp only [bcase, Int.natCast_zero, Int.lt_irrefl, decide_false, cond_false]
    rw [show ((0 : Int)) = ((0 : Nat) : Int) from rfl, J (by omega) hl]
    simp [val, dg_zero]
  | n + 1, h => by
    rw [L2_eq]
    have e : IntKind.i64.wrap (((n + 1 : Nat) : Int) - 1) = (n : Int) := by rw [wrap_i64 (by omega) (by omega)]; omega
    rw [e]
    have e2 : decide ((0 : Int) < ((n + 1 : Nat) : Int)) = true   := by simp
    simp only [bcase, e2, cond_true, Int.toNat_natCast]
    rw [if_pos (by omega)]
    cases hz : xs.getD n 0 == 0 with
    | true =>
      have hz := eq_of_beq hz
      simp only [cond_true]
      rw [L hd hl n (by omega), val_take_succ (by omega), hz]
      simp
    | false =>
      have hz : xs.getD n 0 ≠ 0 := by simpa using hz
      simp only [cond_false]
      rw [J h hl]
      have : Nrm (xs.take (n + 1)) := nrm_of (hd.take _) fun d hg => by
        rw [getLast_take (by omega)] at hg
        cases hg
        exact hz
      rw [← this]

noncomputable def sp (a : List Int) : Prop × List D := (Dig a ∧ a.length ≤ 4398046511104, [.own tU32 .u32 (dg (val a))])
theorem spec (a : List Int) (h : (sp a).1) : evalFn E Tryz.f132 cod [(pI .u32).put a] = some (sp a).2 := by
  obtain ⟨hd, hl⟩ := h
  refine (start a).trans ?_
  rw [L hd hl a.length (Nat.le_refl _), List.take_length]
  rfl

noncomputable def orc : Orc := orc1 (pI .u32) sp
theorem fnok : FnOk Tryz.prog E 132 Tryz.f132 cod := fnOk ty_ok mixed (callsOk_of _ rfl orcs_nil (ext_ok)) Tryz.func132 rfl rfl rfl
theorem ok : OrcOk Tryz.prog base.glob 132 orc := fnok.ok1 rfl spec
end Norm
end Go.Proofs.YtfebndgmmekmgaaGreatDoor.W

/- gnomon/gnomonref04.Mk -/
namespace Go.Proofs.YtfebndgmmekmgaaGreatDoor.W
open Go Go.Proofs.YtfebndgmmekmgaaGreatDoor.AI Go.Proofs.YtfebndgmmekmgaaGreatDoor.M
namespace Mk
noncomputable def E : Env := { ({ base with C := callsOf [(132, Norm.orc)] }) with nt := 16, own := [], keep := fun k => (tlook [] k).getD [], cut := tlook [] }
noncomputable def cod : Code := (Go.Proofs.Tryz.f79.body).getD .skip
theorem nok : namesOk E cod = true := by kernel_rfl
theorem start (a : Bool) (b : List Int) : evalFn E Go.Proofs.Tryz.f79 cod [D.s (S.sc (Value.bool a)), D.s (S.ints IntKind.u32 b)] = gif (Dig b ∧ b.length ≤ (4398046511104 : Nat)) (bcase a (some [D.agg [S.sc (Value.bool (decide ((0 : Int) < (↑(dg (val b)).length : Int)))), S.ints IntKind.u32 (dg (val b))]]) (some [D.agg [S.sc (Value.bool false), S.ints IntKind.u32 (dg (val b))]])) := (evalFn_J rfl nok _).trans (by kernel_rfl)
-- stuck: 0
end Mk
namespace Mk
noncomputable def sp (b : Bool) (m : List Int) : Prop × List D := (Dig m ∧ m.length ≤ 4398046511104, [zD (zs b (val m))])
theorem spec (b : Bool) (m : List Int) (h : (sp b m).1) : evalFn E Tryz.f79 cod [pB.put b, (pI .u32).put m] = some (sp b m).2 := by
  refine (start b m).trans ((gP h).trans ?_)
  unfold sp
  simp only [zD_zs]
  cases b with
  | false => rfl
  | true =>
    rw [bT]
    have : decide (0 < ((dg (val m)).length : Int)) = decide (val m ≠ 0) := by
      by_cases h : val m = 0
      · rw [h, dg_zero]; rfl
      · rw [decide_eq_true h, decide_eq_true]
        have : (dg (val m)).length ≠ 0 := fun hh => h (dg_len_zero.1 hh)
        omega
    rw [this]; rfl

noncomputable def orc : Orc := orc2 pB (pI .u32) sp
theorem fnok : FnOk Tryz.prog E 79 Tryz.f79 cod := fnOk ty_ok mixed (callsOk_of _ rfl (orcs_cons Norm.ok orcs_nil) (ext_ok)) Tryz.func79 rfl rfl rfl
theorem ok : OrcOk Tryz.prog base.glob 79 orc := fnok.ok2 rfl spec
end Mk
end Go.Proofs.YtfebndgmmekmgaaGreatDoor.W

/- gnomon/gnomonref01.Add -/
namespace Go.Proofs.YtfebndgmmekmgaaGreatDoor.W
open Go Go.Proofs.YtfebndgmmekmgaaGreatDoor.AI Go.Proofs.YtfebndgmmekmgaaGreatDoor.M
namespace Add
noncomputable def E : Env := { ({ base with C := callsOf [(132, Norm.orc)] }) with nt := 63, own := [62], keep := fun k => (tlook [(4, [0, 1, 5, 6, 7])] k).getD [], cut := tlook [(6, [0, 1, 5, 6, 7]), (8, [0, 1, 5, 6, 7]), (10, [0, 1, 5, 6, 7])] }
noncomputable def cod : Code := (Go.Proofs.Tryz.f134.body).getD .skip
theorem nok : namesOk E cod = true := by kernel_rfl
noncomputable def L4 (xs0 : List Int) (xs1 : List Int) (m2 : Nat) (xs3 : List Int) (x4 : Int) (x5 : Int) : Option (List D) := lpO E Go.Proofs.Tryz.f134 cod 4 [(A.v (V.one (L.s (S.ints IntKind.u32 xs0))), none), (A.v (V.one (L.s (S.ints IntKind.u32 xs1))), none), (A.v (V.one (L.buf (2 : Nat) m2)), some { e := (180 : Nat), cont := Cont.ints IntKind.u32 xs3 }), (A.v (V.one (L.s (S.sc (Value.int IntKind.u64 x4)))), none), (A.v (V.one (L.s (S.sc (Value.int IntKind.i64 x5)))), none)]
noncomputable def J6 (xs0 : List Int) (xs1 : List Int) (m2 : Nat) (xs3 : List Int) (x4 : Int) (x5 : Int) : Option (List D) := ctO E Go.Proofs.Tryz.f134 cod 6 [(A.v (V.one (L.s (S.ints IntKind.u32 xs0))), none), (A.v (V.one (L.s (S.ints IntKind.u32 xs1))), none), (A.v (V.one (L.buf (2 : Nat) m2)), some { e := (180 : Nat), cont := Cont.ints IntKind.u32 xs3 }), (A.v (V.one (L.s (S.sc (Value.int IntKind.u64 x4)))), none), (A.v (V.one (L.s (S.sc (Value.int IntKind.i64 x5)))), none)]
noncomputable def J8 (xs0 : List Int) (xs1 : List Int) (m2 : Nat) (xs3 : List Int) (x4 : Int) (x5 : Int) : Option (List D) := ctO E Go.Proofs.Tryz.f134 cod 8 [(A.v (V.one (L.s (S.ints IntKind.u32 xs0))), none), (A.v (V.one (L.s (S.ints IntKind.u32 xs1))), none), (A.v (V.one (L.buf (2 : Nat) m2)), some { e := (180 : Nat), cont := Cont.ints IntKind.u32 xs3 }), (A.v (V.one (L.s (S.sc (Value.int IntKind.u64 x4)))), none), (A.v (V.one (L.s (S.sc (Value.int IntKind.i64 x5)))), none)]
noncomputable def J10 (xs0 : List Int) (xs1 : List Int) (m2 : Nat) (xs3 : List Int) (x4 : Int) (x5 : Int) : Option (List D) := ctO E Go.Proofs.Tryz.f134 cod 10 [(A.v (V.one (L.s (S.ints IntKind.u32 xs0))), none), (A.v (V.one (L.s (S.ints IntKind.u32 xs1))), none), (A.v (V.one (L.buf (2 : Nat) m2)), some { e := (180 : Nat), cont := Cont.ints IntKind.u32 xs3 }), (A.v (V.one (L.s (S.sc (Value.int IntKind.u64 x4)))), none), (A.v (V.one (L.s (S.sc (Value.int IntKind.i64 x5)))), none)]
theorem start (a : List Int) (b : List Int) : evalFn E Go.Proofs.Tryz.f134 cod [D.s (S.ints IntKind.u32 a), D.s (S.ints IntKind.u32 b)] = if (0 : Int) ≤ (0 : Int) ∧ (0 : Int) ≤ IntKind.i64.wrap ((if (↑b.length : Int) > (↑a.length : Int) then (↑b.length : Int) else (↑a.length : Int)) + (1 : Int)) ∧ IntKind.i64.wrap ((if (↑b.length : Int) > (↑a.length : Int) then (↑b.length : Int) else (↑a.length : Int)) + (1 : Int)) ≤ (8796093022208 : Int) then Add.L4 a b (0 : Nat) (List.replicate (0 : Nat) (0 : Int)) (0 : Int) (0 : Int) else none := (evalFn_J rfl nok _).trans (by kernel_rfl)
theorem L4_eq (xs0 : List Int) (xs1 : List Int) (m2 : Nat) (xs3 : List Int) (x4 : Int) (x5 : Int) : L4 xs0 xs1 m2 xs3 x4 x5 = bcase (decide (x5 < (↑xs0.length : Int))) (Add.J6 xs0 xs1 m2 xs3 x4 x5) (bcase (decide (x5 < (↑xs1.length : Int))) (Add.J6 xs0 xs1 m2 xs3 x4 x5) (bcase (decide ((0 : Int) < x4)) (Add.J6 xs0 xs1 m2 xs3 x4 x5) (gif (Dig xs3 ∧ xs3.length ≤ (4398046511104 : Nat)) (some [D.own (180 : Nat) IntKind.u32 (dg (val xs3))])))) := (loopAt_J rfl nok 4 _).trans (by kernel_rfl)
theorem J6_eq (xs0 : List Int) (xs1 : List Int) (m2 : Nat) (xs3 : List Int) (x4 : Int) (x5 : Int) : J6 xs0 xs1 m2 xs3 x4 x5 = bcase (decide (x5 < (↑xs0.length : Int))) (if (0 : Int) ≤ x5 ∧ x5 < (↑xs0.length : Int) then Add.J8 xs0 xs1 m2 xs3 (IntKind.u64.wrap (x4 + IntKind.u64.wrap (xs0.getD x5.toNat (0 : Int)))) x5 else none) (Add.J8 xs0 xs1 m2 xs3 x4 x5) := (cutAt_J rfl nok 6 _).trans (by kernel_rfl)
theorem J8_eq (xs0 : List Int) (xs1 : List Int) (m2 : Nat) (xs3 : List Int) (x4 : Int) (x5 : Int) : J8 xs0 xs1 m2 xs3 x4 x5 = bcase (decide (x5 < (↑xs1.length : Int))) (if (0 : Int) ≤ x5 ∧ x5 < (↑xs1.length : Int) then Add.J10 xs0 xs1 m2 xs3 (IntKind.u64.wrap (x4 + IntKind.u64.wrap (xs1.getD x5.toNat (0 : Int)))) x5 else none) (Add.J10 xs0 xs1 m2 xs3 x4 x5) := (cutAt_J rfl nok 8 _).trans (by kernel_rfl)
theorem J10_eq (xs0 : List Int) (xs1 : List Int) (m2 : Nat) (xs3 : List Int) (x4 : Int) (x5 : Int) : J10 xs0 xs1 m2 xs3 x4 x5 = if (0 : Nat) < [IntKind.u32.wrap (bitsI BinOp.and IntKind.u64 x4 (4294967295 : Int))].length ∧ (↑(xs3.length + [IntKind.u32.wrap (bitsI BinOp.and IntKind.u64 x4 (4294967295 : Int))].length) : Int) ≤ (8796093022208 : Int) then Add.L4 xs0 xs1 (xs3.length + [IntKind.u32.wrap (bitsI BinOp.and IntKind.u64 x4 (4294967295 : Int))].length) (xs3 ++ [IntKind.u32.wrap (bitsI BinOp.and IntKind.u64 x4 (4294967295 : Int))]) (x4 / (4294967296 : Int)) (IntKind.i64.wrap (x5 + (1 : Int))) else none := (cutAt_J rfl nok 10 _).trans (by kernel_rfl)
-- stuck: 0
end Add
namespace Add
theorem step {a b xs : List Int} {c : Int} {i : Nat} (ha : Dig a) (hb : Dig b) (hxl : xs.length = i) (hi : i < 4398046511104) (h0 : 0 ≤ c) (h1 : c ≤ 1) (hc : i < a.length ∨ i < b.length ∨ 0 < c) :
    L4 a b i xs c i = L4 a b (i + 1) (xs ++ [(c + a.getD i 0 + b.getD i 0) % 4294967296]) ((c + a.getD i 0 + b.getD i 0) / 4294967296) ((i + 1 : Nat) : Int) := by
  have g1 := ha.get i
  have g2 := hb.get i
  have e' : ((i : Int)).toNat = i := Int.toNat_natCast i
  have hJ10 : ∀ s : Int, 0 ≤ s → s < 18446744073709551616 → J10 a b i xs s i = L4 a b (i + 1) (xs ++ [s % 4294967296]) (s / 4294967296) ((i + 1 : Nat) : Int) := by
    intro s hs hs'
    rw [J10_eq, and_mask32 hs hs', if_pos ⟨by simp, by simp; omega⟩, wrap_u32, Int.emod_emod_of_dvd _ (Int.dvd_refl _), wrap_i64 (by omega) (by omega), hxl]
    rfl
  have hJ8 : ∀ s : Int, 0 ≤ s → s < 8589934592 → J8 a b i xs s i = J10 a b i xs (s + b.getD i 0) i := by
    intro s hs hs'
    rw [J8_eq]
    by_cases h : i < b.length
    · rw [bD_pos (by omega), if_pos (by omega), e', wrap_u64 (n := b.getD i 0) (by omega) (by omega), wrap_u64 (by omega) (by omega)]
    · rw [bD_neg (by omega), getD_none (a := b) (by omega), Int.add_zero]
  have hJ6 : J6 a b i xs c i = L4 a b (i + 1) (xs ++ [(c + a.getD i 0 + b.getD i 0) % 4294967296]) ((c + a.getD i 0 + b.getD i 0) / 4294967296) ((i + 1 : Nat) : Int) := by
    rw [J6_eq]
    by_cases h : i < a.length
    · rw [bD_pos (by omega), if_pos (by omega), e', wrap_u64 (n := a.getD i 0) (by omega) (by omega), wrap_u64 (by omega) (by omega), hJ8 _ (by omega) (by omega), hJ10 _ (by omega) (by omega)]
    · rw [bD_neg (by omega), getD_none (a := a) (by omega), Int.add_zero, hJ8 _ (by omega) (by omega), hJ10 _ (by omega) (by omega)]
  rw [L4_eq]
  by_cases h : i < a.length
  · rw [bD_pos (by omega), hJ6]
  · rw [bD_neg (by omega)]
    by_cases h' : i < b.length
    · rw [bD_pos (by omega), hJ6]
    · rw [bD_neg (by omega), bD_pos (by omega), hJ6]

theorem L {a b : List Int} (ha : Dig a) (hb : Dig b) (hla : a.length ≤ 1099511627776) (hlb : b.length ≤ 1099511627776) : ∀ (d i : Nat) (xs : List Int) (c : Int), Dig xs → xs.length = i → 0 ≤ c → c ≤ 1 →
    i + d = max a.length b.length + 1 → (d = 0 → c = 0) → val xs + 4294967296 ^ i * c.toNat = val (a.take i) + val (b.take i) →
    L4 a b i xs c i = some [D.own tU32 .u32 (dg (val a + val b))] := by
  intro d
  induction d with
  | zero =>
    intro i xs c hx hxl h0 h1 hd hc hv
    have hc := hc rfl
    subst hc
    rw [L4_eq, bD_neg (by omega), bD_neg (by omega), bD_neg (by omega), gP ⟨hx, by omega⟩]
    rw [val_take_ge (by omega), val_take_ge (by omega)] at hv
    simp at hv
    rw [hv]
  | succ d ih =>
    intro i xs c hx hxl h0 h1 hd hc hv
    by_cases hgo : i < a.length ∨ i < b.length ∨ 0 < c
    · have g1 := ha.get i
      have g2 := hb.get i
      rw [step ha hb hxl (by omega) h0 h1 hgo]
      refine ih (i + 1) _ _ (dig_push hx (by omega)) (by simp [hxl]) (by omega) (by omega) (by omega) (fun hd0 => ?_) ?_
      · have : ¬ i < a.length := by omega
        have : ¬ i < b.length := by omega
        rw [getD_none (a := a) (by omega), getD_none (a := b) (by omega)]
        omega
      · rw [val_push, val_take_one, val_take_one, hxl, Nat.pow_succ, Nat.mul_assoc]
        generalize a.getD i 0 = x at *
        generalize b.getD i 0 = y at *
        generalize 4294967296 ^ i = B at *
        have e : 4294967296 * ((c + x + y) / 4294967296).toNat + ((c + x + y) % 4294967296).toNat = c.toNat + x.toNat + y.toNat := by omega
        have e2 : B * (4294967296 * ((c + x + y) / 4294967296).toNat) + B * ((c + x + y) % 4294967296).toNat = B * c.toNat + B * x.toNat + B * y.toNat := by
          rw [← Nat.mul_add, e, Nat.mul_add, Nat.mul_add]
        omega
    · have : c = 0 := by omega
      subst this
      rw [L4_eq, bD_neg (by omega), bD_neg (by omega), bD_neg (by omega), gP ⟨hx, by omega⟩]
      rw [val_take_ge (by omega), val_take_ge (by omega)] at hv
      simp at hv
      rw [hv]

noncomputable def sp (a b : List Int) : Prop × List D := (Dig a ∧ Dig b ∧ a.length ≤ 1099511627776 ∧ b.length ≤ 1099511627776, [.own tU32 .u32 (dg (val a + val b))])
theorem spec (a b : List Int) (h : (sp a b).1) : evalFn E Tryz.f134 cod [(pI .u32).put a, (pI .u32).put b] = some (sp a b).2 := by
  obtain ⟨ha, hb, h1, h2⟩ := h
  refine (start a b).trans ?_
  rw [if_pos]
  · exact L ha hb h1 h2 (max a.length b.length + 1) 0 [] 0 dig_nil rfl (by omega) (by omega) (by omega) (fun _ => rfl) (by simp [val])
  · refine ⟨by omega, ?_, ?_⟩ <;> rw [wrap_i64] <;> split <;> omega

noncomputable def orc : Orc := orc2 (pI .u32) (pI .u32) sp
theorem fnok : FnOk Tryz.prog E 134 Tryz.f134 cod := fnOk ty_ok mixed (callsOk_of _ rfl (orcs_cons Norm.ok orcs_nil) (ext_ok)) Tryz.func134 rfl rfl rfl
theorem ok : OrcOk Tryz.prog base.glob 134 orc := fnok.ok2 rfl spec
end Add
end Go.Proofs.YtfebndgmmekmgaaGreatDoor.W

/- gnomon/gnomonref01.Word -/
namespace Go.Proofs.YtfebndgmmekmgaaGreatDoor.W
open Go Go.Proofs.YtfebndgmmekmgaaGreatDoor.AI Go.Proofs.YtfebndgmmekmgaaGreatDoor.M
namespace Word
noncomputable def E : Env := { ({ base with C := callsOf [(132, Norm.orc)] }) with nt := 11, own := [10], keep := fun k => (tlook [] k).getD [], cut := tlook [] }
noncomputable def cod : Code := (Go.Proofs.Tryz.f130.body).getD .skip
theorem nok : namesOk E cod = true := by kernel_rfl
theorem start (a : Int) : evalFn E Go.Proofs.Tryz.f130 cod [D.s (S.sc (Value.int IntKind.u64 a))] = gif (Dig [IntKind.u32.wrap (bitsI BinOp.and IntKind.u64 a (4294967295 : Int)), IntKind.u32.wrap (a / (4294967296 : Int))] ∧ [IntKind.u32.wrap (bitsI BinOp.and IntKind.u64 a (4294967295 : Int)), IntKind.u32.wrap (a / (4294967296 : Int))].length ≤ (4398046511104 : Nat)) (some [D.own (180 : Nat) IntKind.u32 (dg (val [IntKind.u32.wrap (bitsI BinOp.and IntKind.u64 a (4294967295 : Int)), IntKind.u32.wrap (a / (4294967296 : Int))]))]) := (evalFn_J rfl nok _).trans (by kernel_rfl)
-- stuck: 0
end Word
namespace Word
noncomputable def sp (w : Int) : Prop × List D := (0 ≤ w ∧ w < 18446744073709551616, [.own tU32 .u32 (dg w.toNat)])
theorem spec (w : Int) (h : (sp w).1) : evalFn E Tryz.f130 cod [(pN .u64).put w] = some (sp w).2 := by
  obtain ⟨h, h'⟩ := h
  refine (start w).trans ?_
  rw [and_mask32 h h', wrap_u32, wrap_u32, gif_pos]
  · unfold sp
    congr 4
    simp only [val]
    omega
  · refine ⟨?_, by simp⟩
    rw [dig_cons, dig_cons]
    exact ⟨by omega, by omega, dig_nil⟩

noncomputable def orc : Orc := orc1 (pN .u64) sp
theorem fnok : FnOk Tryz.prog E 130 Tryz.f130 cod := fnOk ty_ok mixed (callsOk_of _ rfl (orcs_cons Norm.ok orcs_nil) (ext_ok)) Tryz.func130 rfl rfl rfl
theorem ok : OrcOk Tryz.prog base.glob 130 orc := fnok.ok1 rfl spec
end Word
end Go.Proofs.YtfebndgmmekmgaaGreatDoor.W

/- gnomon/gnomonref04.Of -/
namespace Go.Proofs.YtfebndgmmekmgaaGreatDoor.W
open Go Go.Proofs.YtfebndgmmekmgaaGreatDoor.AI Go.Proofs.YtfebndgmmekmgaaGreatDoor.M
namespace ZOf
noncomputable def E : Env := { ({ base with C := callsOf [(79, Mk.orc), (134, Add.orc), (130, Word.orc)] }) with nt := 17, own := [], keep := fun k => (tlook [] k).getD [], cut := tlook [] }
noncomputable def cod : Code := (Go.Proofs.Tryz.f90.body).getD .skip
theorem nok : namesOk E cod = true := by kernel_rfl
theorem start (a : Int) : evalFn E Go.Proofs.Tryz.f90 cod [D.s (S.sc (Value.int IntKind.i64 a))] = bcase (decide (a < (0 : Int))) (gif ((0 : Int) ≤ IntKind.u64.wrap (IntKind.i64.wrap ((0 : Int) - IntKind.i64.wrap (a + (1 : Int)))) ∧ IntKind.u64.wrap (IntKind.i64.wrap ((0 : Int) - IntKind.i64.wrap (a + (1 : Int)))) < (18446744073709551616 : Int)) (gif ((0 : Int) ≤ (1 : Int) ∧ (1 : Int) < (18446744073709551616 : Int)) (gif (Dig (dg (IntKind.u64.wrap (IntKind.i64.wrap ((0 : Int) - IntKind.i64.wrap (a + (1 : Int))))).toNat) ∧ Dig (dg (1 : Nat)) ∧ (dg (IntKind.u64.wrap (IntKind.i64.wrap ((0 : Int) - IntKind.i64.wrap (a + (1 : Int))))).toNat).length ≤ (1099511627776 : Nat) ∧ (dg (1 : Nat)).length ≤ (1099511627776 : Nat)) (gif (Dig (dg (val (dg (IntKind.u64.wrap (IntKind.i64.wrap ((0 : Int) - IntKind.i64.wrap (a + (1 : Int))))).toNat) + val (dg (1 : Nat)))) ∧ (dg (val (dg (IntKind.u64.wrap (IntKind.i64.wrap ((0 : Int) - IntKind.i64.wrap (a + (1 : Int))))).toNat) + val (dg (1 : Nat)))).length ≤ (4398046511104 : Nat)) (some [D.agg [S.sc (Value.bool (isNeg (zs true (val (dg (val (dg (IntKind.u64.wrap (IntKind.i64.wrap ((0 : Int) - IntKind.i64.wrap (a + (1 : Int))))).toNat) + val (dg (1 : Nat)))))))), S.ints IntKind.u32 (dg (zs true (val (dg (val (dg (IntKind.u64.wrap (IntKind.i64.wrap ((0 : Int) - IntKind.i64.wrap (a + (1 : Int))))).toNat) + val (dg (1 : Nat)))))).natAbs)]]))))) (gif ((0 : Int) ≤ IntKind.u64.wrap a ∧ IntKind.u64.wrap a < (18446744073709551616 : Int)) (gif (Dig (dg (IntKind.u64.wrap a).toNat) ∧ (dg (IntKind.u64.wrap a).toNat).length ≤ (4398046511104 : Nat)) (some [D.agg [S.sc (Value.bool (isNeg (zs false (val (dg (IntKind.u64.wrap a).toNat))))), S.ints IntKind.u32 (dg (zs false (val (dg (IntKind.u64.wrap a).toNat))).natAbs)]]))) := (evalFn_J rfl nok _).trans (by kernel_rfl)
-- stuck: 0
end ZOf
namespace ZOf
noncomputable def sp (a : Int) : Prop × List D := (-9223372036854775808 ≤ a ∧ a < 9223372036854775808, [zD a])
theorem len64 {n : Nat} (h : n < 18446744073709551616) : (dg n).length ≤ 2 := len_dg_le (by simpa using h)
theorem spec (a : Int) (h : (sp a).1) : evalFn E Tryz.f90 cod [(pN .i64).put a] = some (sp a).2 := by
  obtain ⟨h1, h2⟩ := h
  refine (start a).trans ?_
  show _ = some [zD a]
  simp only [val_dg]
  by_cases hn : a < 0
  · have e : IntKind.u64.wrap (IntKind.i64.wrap (0 - IntKind.i64.wrap (a + 1))) = -(a + 1) := by
      rw [wrap_i64 (n := a + 1) (by omega) (by omega), wrap_i64 (by omega) (by omega), wrap_u64 (by omega) (by omega)]; omega
    have l1 := len64 (n := (-(a + 1)).toNat) (by omega)
    have l2 := len64 (n := (-(a + 1)).toNat + 1) (by omega)
    have l3 := len64 (n := 1) (by omega)
    rw [bD_pos hn, e, gP ⟨by omega, by omega⟩, gP ⟨by omega, by omega⟩, gP ⟨dig_dg _, dig_dg _, by omega, by omega⟩, gP ⟨dig_dg _, by omega⟩]
    have ez : zs true ((-(a + 1)).toNat + 1) = a := by unfold zs; simp only [cond_true]; omega
    rw [ez]
    rfl
  · have l1 := len64 (n := a.toNat) (by omega)
    rw [bD_neg hn, wrap_u64 (by omega) (by omega), gP ⟨by omega, by omega⟩, gP ⟨dig_dg _, by omega⟩]
    have ez : zs false a.toNat = a := by unfold zs; simp only [cond_false]; omega
    rw [ez]
    rfl

noncomputable def orc : Orc := orc1 (pN .i64) sp
theorem fnok : FnOk Tryz.prog E 90 Tryz.f90 cod := fnOk ty_ok mixed (callsOk_of _ rfl (orcs_cons Mk.ok (orcs_cons Add.ok (orcs_cons Word.ok orcs_nil))) (ext_ok)) Tryz.func90 rfl rfl rfl
theorem ok : OrcOk Tryz.prog base.glob 90 orc := fnok.ok1 rfl spec
end ZOf
end Go.Proofs.YtfebndgmmekmgaaGreatDoor.W

/- gnomon/gnomonref01.Bit -/
namespace Go.Proofs.YtfebndgmmekmgaaGreatDoor.W
open Go Go.Proofs.YtfebndgmmekmgaaGreatDoor.AI Go.Proofs.YtfebndgmmekmgaaGreatDoor.M
namespace Bit
noncomputable def E : Env := { (base) with nt := 24, own := [], keep := fun k => (tlook [] k).getD [], cut := tlook [(3, [0, 1])] }
noncomputable def cod : Code := (Go.Proofs.Tryz.f139.body).getD .skip
theorem nok : namesOk E cod = true := by kernel_rfl
noncomputable def J3 (xs0 : List Int) (x1 : Int) : Option (List D) := ctO E Go.Proofs.Tryz.f139 cod 3 [(A.v (V.one (L.s (S.ints IntKind.u32 xs0))), none), (A.v (V.one (L.s (S.sc (Value.int IntKind.i64 x1)))), none)]
theorem start (a : List Int) (b : Int) : evalFn E Go.Proofs.Tryz.f139 cod [D.s (S.ints IntKind.u32 a), D.s (S.sc (Value.int IntKind.i64 b))] = bcase (decide (b < (0 : Int))) (some [D.s (S.sc (Value.int IntKind.i64 (0 : Int)))]) (bcase (decide ((↑a.length : Int) ≤ IntKind.i64.wrap (b.tdiv (32 : Int)))) (some [D.s (S.sc (Value.int IntKind.i64 (0 : Int)))]) (Bit.J3 a b)) := (evalFn_J rfl nok _).trans (by kernel_rfl)
theorem J3_eq (xs0 : List Int) (x1 : Int) : J3 xs0 x1 = if (0 : Int) ≤ IntKind.i64.wrap (x1.tdiv (32 : Int)) ∧ IntKind.i64.wrap (x1.tdiv (32 : Int)) < (↑xs0.length : Int) then if x1.tmod (32 : Int) < (0 : Int) then none else some [D.s (S.sc (Value.int IntKind.i64 (IntKind.i64.wrap (bitsI BinOp.and IntKind.u32 (xs0.getD (IntKind.i64.wrap (x1.tdiv (32 : Int))).toNat (0 : Int) / (↑((2 : Nat) ^ min (x1.tmod (32 : Int)).toNat (32 : Nat)) : Int)) (1 : Int)))))] else none := (cutAt_J rfl nok 3 _).trans (by kernel_rfl)
-- stuck: 0
end Bit
namespace Bit
theorem and_one32 {x : Int} (h : 0 ≤ x) (h' : x < 4294967296) : bitsI .and .u32 x 1 = x % 2 := by
  obtain ⟨n, rfl⟩ := Int.eq_ofNat_of_zero_le h
  rw [bitsI_eq]
  unfold bitsI0
  simp only
  have e : (BitVec.ofInt IntKind.u32.bits (n : Int) &&& BitVec.ofInt IntKind.u32.bits 1).toNat = n % 2 := by
    show (BitVec.ofInt 32 (n : Int) &&& BitVec.ofInt 32 1).toNat = _
    rw [BitVec.toNat_and]
    have e1 : (BitVec.ofInt 32 (n : Int)).toNat = n := by simp; omega
    have e2 : (BitVec.ofInt 32 1).toNat = 1 := by decide
    rw [e1, e2, Nat.and_one_is_mod]
  rw [e, wrap_u32]
  omega
noncomputable def sp (a : List Int) (i : Int) : Prop × List D := (Dig a ∧ a.length ≤ 1099511627776 ∧ -9223372036854775808 ≤ i ∧ i < 9223372036854775808, [.s (.sc (.int .i64 (if i < 0 then 0 else ((val a / 2 ^ i.toNat % 2 : Nat) : Int))))])
theorem spec (a : List Int) (i : Int) (h : (sp a i).1) : evalFn E Tryz.f139 cod [(pI .u32).put a, (pN .i64).put i] = some (sp a i).2 := by
  obtain ⟨ha, hl, h1, h2⟩ := h
  refine (start a i).trans ?_
  show _ = some [D.s (.sc (.int .i64 (if i < 0 then 0 else ((val a / 2 ^ i.toNat % 2 : Nat) : Int))))]
  by_cases hn : i < 0
  · rw [bD_pos hn, if_pos hn]
  · have t1 : i.tdiv 32 = i / 32 := Int.tdiv_eq_ediv_of_nonneg (by omega)
    have t2 : i.tmod 32 = i % 32 := Int.tmod_eq_emod_of_nonneg (by omega)
    have e1 : (i / 32).toNat = i.toNat / 32 := by omega
    have e2 : (i % 32).toNat = i.toNat % 32 := by omega
    rw [bD_neg hn, if_neg hn, t1, wrap_i64 (n := i / 32) (by omega) (by omega), pow_split i.toNat, ← Nat.div_div_eq_div_mul]
    by_cases hz : (a.length : Int) ≤ i / 32
    · have hv : val a / 4294967296 ^ (i.toNat / 32) = 0 := by
        apply Nat.div_eq_of_lt
        exact Nat.lt_of_lt_of_le (val_lt ha) (Nat.pow_le_pow_right (by omega) (by omega))
      rw [bD_pos hz, hv, Nat.zero_div]
      rfl
    · have g := ha.get (i.toNat / 32)
      rw [bD_neg hz, J3_eq, t1, t2, wrap_i64 (n := i / 32) (by omega) (by omega), if_pos (by omega), if_neg (by omega), e1, e2, ← val_drop_div ha, val_drop_one]
      have em : min (i.toNat % 32) 32 = i.toNat % 32 := by omega
      have hlt : i.toNat % 32 < 32 := Nat.mod_lt _ (by omega)
      rw [em]
      generalize i.toNat % 32 = k at *
      generalize a.getD (i.toNat / 32) 0 = x at *
      generalize val (a.drop (i.toNat / 32 + 1)) = r at *
      have hp : 0 < 2 ^ k := Nat.pow_pos (by omega)
      have e3 : (x.toNat + 4294967296 * r) / 2 ^ k % 2 = x.toNat / 2 ^ k % 2 := by
        have : 4294967296 * r = 2 ^ k * (2 * (2 ^ (31 - k) * r)) := by
          rw [show (4294967296 : Nat) = 2 ^ 32 from rfl, show 32 = k + (1 + (31 - k)) from by omega, Nat.pow_add, Nat.pow_add, Nat.mul_assoc, Nat.mul_assoc]
        rw [this, Nat.add_mul_div_left _ _ hp]
        omega
      rw [e3]
      have ex : x / ((2 ^ k : Nat) : Int) = ((x.toNat / 2 ^ k : Nat) : Int) := by
        obtain ⟨n, rfl⟩ := Int.eq_ofNat_of_zero_le g.1
        rw [← Int.natCast_ediv]; rfl
      have hle : x.toNat / 2 ^ k ≤ x.toNat := Nat.div_le_self _ _
      rw [ex]
      clear ex e3
      generalize x.toNat / 2 ^ k = q at *
      rw [and_one32 (by omega) (by omega), wrap_i64 (by omega) (by omega)]
      rfl

noncomputable def orc : Orc := orc2 (pI .u32) (pN .i64) sp
theorem fnok : FnOk Tryz.prog E 139 Tryz.f139 cod := fnOk ty_ok mixed (callsOk_of _ rfl orcs_nil (ext_ok)) Tryz.func139 rfl rfl rfl
theorem ok : OrcOk Tryz.prog base.glob 139 orc := fnok.ok2 rfl spec
end Bit
end Go.Proofs.YtfebndgmmekmgaaGreatDoor.W

/- gnomon/gnomonref01.Zeros -/
namespace Go.Proofs.YtfebndgmmekmgaaGreatDoor.W
open Go Go.Proofs.YtfebndgmmekmgaaGreatDoor.AI Go.Proofs.YtfebndgmmekmgaaGreatDoor.M
namespace Zeros
noncomputable def E : Env := { ({ base with C := callsOf [(139, Bit.orc)] }) with nt := 29, own := [], keep := fun k => (tlook [(6, [0, 3]), (4, [0, 3])] k).getD [], cut := tlook [(6, [0, 3])] }
noncomputable def cod : Code := (Go.Proofs.Tryz.f85.body).getD .skip
theorem nok : namesOk E cod = true := by kernel_rfl
noncomputable def L4 (xs0 : List Int) (x1 : Int) : Option (List D) := lpO E Go.Proofs.Tryz.f85 cod 4 [(A.v (V.one (L.s (S.ints IntKind.u32 xs0))), none), (A.v (V.one (L.s (S.sc (Value.int IntKind.i64 x1)))), none)]
noncomputable def J6 (xs0 : List Int) (x1 : Int) : Option (List D) := ctO E Go.Proofs.Tryz.f85 cod 6 [(A.v (V.one (L.s (S.ints IntKind.u32 xs0))), none), (A.v (V.one (L.s (S.sc (Value.int IntKind.i64 x1)))), none)]
noncomputable def L6 (xs0 : List Int) (x1 : Int) : Option (List D) := lpO E Go.Proofs.Tryz.f85 cod 6 [(A.v (V.one (L.s (S.ints IntKind.u32 xs0))), none), (A.v (V.one (L.s (S.sc (Value.int IntKind.i64 x1)))), none)]
theorem start (a : List Int) : evalFn E Go.Proofs.Tryz.f85 cod [D.s (S.ints IntKind.u32 a)] = bcase ((↑a.length : Int) == (0 : Int)) (some [D.s (S.sc (Value.int IntKind.i64 (0 : Int)))]) (Zeros.L4 a (0 : Int)) := (evalFn_J rfl nok _).trans (by kernel_rfl)
theorem L4_eq (xs0 : List Int) (x1 : Int) : L4 xs0 x1 = bcase (decide (IntKind.i64.wrap (x1.tdiv (32 : Int)) < (↑xs0.length : Int))) (if (0 : Int) ≤ IntKind.i64.wrap (x1.tdiv (32 : Int)) ∧ IntKind.i64.wrap (x1.tdiv (32 : Int)) < (↑xs0.length : Int) then bcase (xs0.getD (IntKind.i64.wrap (x1.tdiv (32 : Int))).toNat (0 : Int) == (0 : Int)) (Zeros.L4 xs0 (IntKind.i64.wrap (x1 + (32 : Int)))) (Zeros.J6 xs0 x1) else none) (Zeros.J6 xs0 x1) := (loopAt_J rfl nok 4 _).trans (by kernel_rfl)
theorem J6_eq (xs0 : List Int) (x1 : Int) : J6 xs0 x1 = Zeros.L6 xs0 x1 := (cutAt_J rfl nok 6 _).trans (by kernel_rfl)
theorem L6_eq (xs0 : List Int) (x1 : Int) : L6 xs0 x1 = gif (Dig xs0 ∧ xs0.length ≤ (1099511627776 : Nat) ∧ (-9223372036854775808 : Int) ≤ x1 ∧ x1 < (9223372036854775808 : Int)) (bcase ((if x1 < (0 : Int) then (0 : Int) else (↑(val xs0 / (2 : Nat) ^ x1.toNat % (2 : Nat)) : Int)) == (0 : Int)) (Zeros.L6 xs0 (IntKind.i64.wrap (x1 + (1 : Int)))) (some [D.s (S.sc (Value.int IntKind.i64 x1))])) := (loopAt_J rfl nok 6 _).trans (by kernel_rfl)
-- stuck: 0
end Zeros
namespace Zeros
theorem tz_ge {v k : Nat} (hv : v ≠ 0) (h : v % 2 ^ k = 0) : k ≤ tz v := by
  have hd := Nat.div_add_mod v (2 ^ k)
  rw [h, Nat.add_zero] at hd
  have hq : v / 2 ^ k ≠ 0 := fun hq => by rw [hq, Nat.mul_zero] at hd; omega
  have := tz_mul hq k
  rw [hd] at this
  omega
theorem lp {a : List Int} (ha : Dig a) (hl : a.length ≤ 1099511627776) (hv : val a ≠ 0) (ht : tz (val a) < 70368744177664) : ∀ (d n : Nat), n + d = tz (val a) → L6 a (n : Int) = some [D.s (.sc (.int .i64 ((tz (val a) : Nat) : Int)))] := by
  have hs := tz_spec _ hv
  intro d
  induction d with
  | zero =>
    intro n hd
    have : n = tz (val a) := by omega
    subst this
    rw [L6_eq, gP ⟨ha, hl, by omega, by omega⟩, if_neg (by omega), Int.toNat_natCast, bE_neg (by omega)]
  | succ d ih =>
    intro n hd
    have h0 : val a / 2 ^ n % 2 = 0 := by
      have hdm := Nat.div_add_mod (val a) (2 ^ tz (val a))
      rw [hs.1, Nat.add_zero] at hdm
      have : val a = 2 ^ n * (2 * (2 ^ d * (val a / 2 ^ tz (val a)))) := by
        have e : 2 ^ tz (val a) = 2 ^ n * (2 * 2 ^ d) := by rw [← hd, Nat.pow_add, Nat.pow_succ, Nat.mul_comm (2 ^ d)]
        generalize val a / 2 ^ tz (val a) = q at *
        rw [← Nat.mul_assoc 2, ← Nat.mul_assoc (2 ^ n), ← e]
        exact hdm.symm
      rw [this, Nat.mul_div_cancel_left _ (Nat.pow_pos (by decide))]
      omega
    rw [L6_eq, gP ⟨ha, hl, by omega, by omega⟩, if_neg (by omega), Int.toNat_natCast, h0, bE_pos (show ((0 : Nat) : Int) = 0 from rfl), wrap_i64 (by omega) (by omega)]
    exact ih (n + 1) (by omega)
theorem skip {a : List Int} (ha : Dig a) (hl : a.length ≤ 1099511627776) (hv : val a ≠ 0) (ht : tz (val a) < 70368744177664) : ∀ (d i : Nat), i + d = a.length → val (a.take i) = 0 → L4 a ((32 * i : Nat) : Int) = some [D.s (.sc (.int .i64 ((tz (val a) : Nat) : Int)))] := by
  have key : ∀ i, val (a.take i) = 0 → 32 * i ≤ tz (val a) ∧ i < a.length := by
    intro i h0
    have hlt : i < a.length := by
      rcases Nat.lt_or_ge i a.length with h | h
      · exact h
      · rw [List.take_of_length_le h] at h0; exact (hv h0).elim
    refine ⟨tz_ge hv ?_, hlt⟩
    have h1 := val_take_drop a (n := i) (by omega)
    rw [h0, Nat.zero_add] at h1
    rw [← pow32, h1, Nat.mul_mod_right]
  intro d
  induction d with
  | zero => intro i hd h0; have := key i h0; omega
  | succ d ih =>
    intro i hd h0
    have hk := key i h0
    have t1 : (((32 * i : Nat) : Int)).tdiv 32 = (i : Int) := by rw [Int.tdiv_eq_ediv_of_nonneg (by omega)]; omega
    have g := ha.get i
    rw [L4_eq, t1, wrap_i64 (n := (i : Int)) (by omega) (by omega), bD_pos (by omega), if_pos (by omega), Int.toNat_natCast]
    by_cases hc : a.getD i 0 = 0
    · rw [bE_pos hc, wrap_i64 (by omega) (by omega)]
      have := ih (i + 1) (by omega) (by rw [val_take_one, h0, hc]; simp)
      rw [show ((32 * i : Nat) : Int) + 32 = ((32 * (i + 1) : Nat) : Int) by omega]
      exact this
    · rw [bE_neg hc, J6_eq]
      exact lp ha hl hv ht (tz (val a) - 32 * i) (32 * i) (by omega)
noncomputable def sp (a : List Int) : Prop × List D := (Nrm a ∧ a.length ≤ 1099511627776, [.s (.sc (.int .i64 (if val a = 0 then 0 else ((tz (val a) : Nat) : Int))))])
theorem spec (a : List Int) (h : (sp a).1) : evalFn E Tryz.f85 cod [(pI .u32).put a] = some (sp a).2 := by
  obtain ⟨ha, hl⟩ := h
  refine (start a).trans ?_
  show _ = some [D.s (.sc (.int .i64 (if val a = 0 then 0 else ((tz (val a) : Nat) : Int))))]
  by_cases h0 : a.length = 0
  · rw [bE_pos (by omega), if_pos ((len_zero ha).1 h0)]
  · have hv : val a ≠ 0 := fun h => h0 ((len_zero ha).2 h)
    have ht : tz (val a) < 70368744177664 := by
      have h1 := tz_lt hv
      have h2 := val_lt ha.dig
      rw [pow32] at h2
      have := (Nat.pow_lt_pow_iff_right (by decide : 1 < 2)).1 (Nat.lt_of_le_of_lt h1 h2)
      omega
    rw [bE_neg (by omega), if_neg hv]
    exact skip ha.dig hl hv ht a.length 0 (by omega) (by simp [val])

noncomputable def orc : Orc := orc1 (pI .u32) sp
theorem fnok : FnOk Tryz.prog E 85 Tryz.f85 cod := fnOk ty_ok mixed (callsOk_of _ rfl (orcs_cons Bit.ok orcs_nil) (ext_ok)) Tryz.func85 rfl rfl rfl
theorem ok : OrcOk Tryz.prog base.glob 85 orc := fnok.ok1 rfl spec
end Zeros
end Go.Proofs.YtfebndgmmekmgaaGreatDoor.W

/- gnomon/gnomonref01.DivSmall -/
namespace Go.Proofs.YtfebndgmmekmgaaGreatDoor.W
open Go Go.Proofs.YtfebndgmmekmgaaGreatDoor.AI Go.Proofs.YtfebndgmmekmgaaGreatDoor.M
namespace DivSmall
noncomputable def E : Env := { ({ base with C := callsOf [(132, Norm.orc), (130, Word.orc)] }) with nt := 46, own := [11, 43], keep := fun k => (tlook [(6, [0, 1, 6, 7, 8])] k).getD [], cut := tlook [] }
noncomputable def cod : Code := (Go.Proofs.Tryz.f140.body).getD .skip
theorem nok : namesOk E cod = true := by kernel_rfl
noncomputable def L6 (xs0 : List Int) (x1 : Int) (m2 : Nat) (xs3 : List Int) (x4 : Int) (x5 : Int) : Option (List D) := lpO E Go.Proofs.Tryz.f140 cod 6 [(A.v (V.one (L.s (S.ints IntKind.u32 xs0))), none), (A.v (V.one (L.s (S.sc (Value.int IntKind.u32 x1)))), none), (A.v (V.one (L.buf (2 : Nat) m2)), some { e := (180 : Nat), cont := Cont.ints IntKind.u32 xs3 }), (A.v (V.one (L.s (S.sc (Value.int IntKind.u64 x4)))), none), (A.v (V.one (L.s (S.sc (Value.int IntKind.i64 x5)))), none)]
theorem start (a : List Int) (b : Int) : evalFn E Go.Proofs.Tryz.f140 cod [D.s (S.ints IntKind.u32 a), D.s (S.sc (Value.int IntKind.u32 b))] = bcase (b == (0 : Int)) (gif ((0 : Int) ≤ (0 : Int) ∧ (0 : Int) < (18446744073709551616 : Int)) (some [D.own (180 : Nat) IntKind.u32 (dg (0 : Nat)), D.s (S.sc (Value.int IntKind.u32 (0 : Int)))])) (if (0 : Int) ≤ (↑a.length : Int) ∧ (↑a.length : Int) ≤ (↑a.length : Int) ∧ (↑a.length : Int) ≤ (8796093022208 : Int) then DivSmall.L6 a b (↑a.length : Int).toNat (List.replicate (↑a.length : Int).toNat (0 : Int)) (0 : Int) (IntKind.i64.wrap ((↑a.length : Int) - (1 : Int))) else none) := (evalFn_J rfl nok _).trans (by kernel_rfl)
theorem L6_eq (xs0 : List Int) (x1 : Int) (m2 : Nat) (xs3 : List Int) (x4 : Int) (x5 : Int) : L6 xs0 x1 m2 xs3 x4 x5 = bcase (decide ((0 : Int) ≤ x5)) (if (0 : Int) ≤ x5 ∧ x5 < (↑xs0.length : Int) then if IntKind.u64.wrap x1 = (0 : Int) then none else if (0 : Int) ≤ x5 ∧ x5 < (↑m2 : Int) then if IntKind.u64.wrap x1 = (0 : Int) then none else DivSmall.L6 xs0 x1 m2 (xs3.set x5.toNat (IntKind.u32.wrap (IntKind.u64.wrap ((IntKind.u64.wrap (IntKind.u64.wrap (x4 * (4294967296 : Int)) + IntKind.u64.wrap (xs0.getD x5.toNat (0 : Int)))).tdiv (IntKind.u64.wrap x1))))) ((IntKind.u64.wrap (IntKind.u64.wrap (x4 * (4294967296 : Int)) + IntKind.u64.wrap (xs0.getD x5.toNat (0 : Int)))).tmod (IntKind.u64.wrap x1)) (IntKind.i64.wrap (x5 - (1 : Int))) else none else none) (gif (Dig xs3 ∧ xs3.length ≤ (4398046511104 : Nat)) (some [D.own (180 : Nat) IntKind.u32 (dg (val xs3)), D.s (S.sc (Value.int IntKind.u32 (IntKind.u32.wrap x4)))])) := (loopAt_J rfl nok 6 _).trans (by kernel_rfl)
-- stuck: 0
end DivSmall
namespace DivSmall
theorem L {a : List Int} {w : Int} (ha : Dig a) (hla : a.length ≤ 1099511627776) (hw : 0 < w) (hw' : w < 4294967296) : ∀ (n : Nat) (q : List Int) (l : Int), Dig q → q.length = a.length → 0 ≤ l → l < w → n ≤ a.length →
    L6 a w a.length q l ((n : Int) - 1) = some [D.own tU32 .u32 (dg ((l.toNat * 4294967296 ^ n + val (a.take n)) / w.toNat + 4294967296 ^ n * val (q.drop n))), D.s (.sc (.int .u32 (((l.toNat * 4294967296 ^ n + val (a.take n)) % w.toNat : Nat) : Int)))] := by
  intro n
  induction n with
  | zero =>
    intro q l hq hql h0 h1 hn
    rw [L6_eq, bD_neg (by omega), gP ⟨hq, by omega⟩, wrap_u32]
    simp only [Nat.pow_zero, Nat.mul_one, List.take_zero, val, Nat.add_zero, List.drop_zero, Nat.one_mul]
    rw [Nat.div_eq_of_lt (by omega), Nat.zero_add, Nat.mod_eq_of_lt (by omega)]
    have e0 : l % 4294967296 = ((l.toNat : Nat) : Int) := by omega
    rw [e0]
  | succ n ih =>
    intro q l hq hql h0 h1 hn
    have g1 := ha.get n
    have e : (((n + 1 : Nat) : Int) - 1) = (n : Int) := by omega
    have e' : ((n : Int)).toNat = n := Int.toNat_natCast n
    have hu : wrap_u64 (n := w) (by omega) (by omega) = wrap_u64 (n := w) (by omega) (by omega) := rfl
    rw [e, L6_eq, bD_pos (by omega), if_pos (by omega), e', wrap_u64 (n := w) (by omega) (by omega), if_neg (by omega), if_pos (by omega), if_neg (by omega), wrap_u64 (n := l * 4294967296) (by omega) (by omega),
      wrap_u64 (n := a.getD n 0) (by omega) (by omega), wrap_u64 (n := l * 4294967296 + a.getD n 0) (by omega) (by omega), wrap_i64 (by omega) (by omega)]
    have hs0 : 0 ≤ l * 4294967296 + a.getD n 0 := by omega
    rw [Int.tdiv_eq_ediv_of_nonneg hs0, Int.tmod_eq_emod_of_nonneg hs0]
    have hqb : (l * 4294967296 + a.getD n 0) / w < 4294967296 := Int.ediv_lt_of_lt_mul hw (by
      have : (l + 1) * 4294967296 ≤ w * 4294967296 := Int.mul_le_mul_of_nonneg_right (by omega) (by omega)
      omega)
    have hq0 : 0 ≤ (l * 4294967296 + a.getD n 0) / w := Int.ediv_nonneg hs0 (by omega)
    have hm0 := Int.emod_nonneg (l * 4294967296 + a.getD n 0) (show w ≠ 0 by omega)
    have hm1 := Int.emod_lt_of_pos (l * 4294967296 + a.getD n 0) hw
    rw [wrap_u64 hq0 (by omega), wrap_u32, Int.emod_eq_of_lt hq0 hqb, ih _ _ (dig_set hq ⟨hq0, hqb⟩) (by simpa using hql) hm0 hm1 (by omega), val_drop_set (by omega), val_take_one]
    have hw2 : 0 < w.toNat := by omega
    have d1 : ((l * 4294967296 + a.getD n 0) / w).toNat = (l.toNat * 4294967296 + (a.getD n 0).toNat) / w.toNat := by
      rw [toNat_ediv' hs0 (by omega)]; congr 1; omega
    have d2 : ((l * 4294967296 + a.getD n 0) % w).toNat = (l.toNat * 4294967296 + (a.getD n 0).toNat) % w.toNat := by
      rw [toNat_emod' hs0 (by omega)]; congr 1; omega
    rw [d1, d2, Nat.pow_succ]
    generalize (a.getD n 0).toNat = x at *
    generalize l.toNat = l at *
    generalize val (a.take n) = v at *
    generalize 4294967296 ^ n = B at *
    have e3 : l * (B * 4294967296) + (v + B * x) = (l * 4294967296 + x) * B + v := by
      rw [Nat.add_mul, Nat.mul_comm B 4294967296, ← Nat.mul_assoc, Nat.mul_comm B x]; omega
    rw [e3, div_step hw2, mod_step (l := l) (B := 4294967296) (d := x), Nat.mul_add, Nat.mul_assoc, Nat.add_assoc]

noncomputable def sp (a : List Int) (w : Int) : Prop × List D := (Dig a ∧ a.length ≤ 1099511627776 ∧ (0 < w ∧ w < 4294967296), [.own tU32 .u32 (dg (val a / w.toNat)), .s (.sc (.int .u32 ((val a % w.toNat : Nat) : Int)))])
theorem spec (a : List Int) (w : Int) (h : (sp a w).1) : evalFn E Tryz.f140 cod [(pI .u32).put a, (pN .u32).put w] = some (sp a w).2 := by
  obtain ⟨ha, h1, hw⟩ := h
  refine (start a w).trans ?_
  rw [bE_neg (by omega), if_pos ⟨by omega, by omega, by omega⟩, wrap_i64 (by omega) (by omega), Int.toNat_natCast, L ha h1 hw.1 hw.2 a.length _ 0 (dig_replicate _) (by simp) (by omega) (by omega) (Nat.le_refl _)]
  simp [sp, val]

noncomputable def orc : Orc := orc2 (pI .u32) (pN .u32) sp
theorem fnok : FnOk Tryz.prog E 140 Tryz.f140 cod := fnOk ty_ok mixed (callsOk_of _ rfl (orcs_cons Norm.ok (orcs_cons Word.ok orcs_nil)) (ext_ok)) Tryz.func140 rfl rfl rfl
theorem ok : OrcOk Tryz.prog base.glob 140 orc := fnok.ok2 rfl spec
end DivSmall
end Go.Proofs.YtfebndgmmekmgaaGreatDoor.W

/- gnomon/gnomonref01.Shr -/
namespace Go.Proofs.YtfebndgmmekmgaaGreatDoor.W
open Go Go.Proofs.YtfebndgmmekmgaaGreatDoor.AI Go.Proofs.YtfebndgmmekmgaaGreatDoor.M
namespace Shr
noncomputable def E : Env := { ({ base with C := callsOf [(132, Norm.orc), (130, Word.orc), (140, DivSmall.orc)] }) with nt := 29, own := [10, 16, 25], keep := fun k => (tlook [] k).getD [], cut := tlook [] }
noncomputable def cod : Code := (Go.Proofs.Tryz.f86.body).getD .skip
theorem nok : namesOk E cod = true := by kernel_rfl
theorem start (a : List Int) (b : Int) : evalFn E Go.Proofs.Tryz.f86 cod [D.s (S.ints IntKind.u32 a), D.s (S.sc (Value.int IntKind.i64 b))] = bcase (decide (b ≤ (0 : Int))) (gif (Dig a ∧ a.length ≤ (4398046511104 : Nat)) (some [D.own (180 : Nat) IntKind.u32 (dg (val a))])) (bcase (decide ((↑a.length : Int) ≤ IntKind.i64.wrap (b.tdiv (32 : Int)))) (gif ((0 : Int) ≤ (0 : Int) ∧ (0 : Int) < (18446744073709551616 : Int)) (some [D.own (180 : Nat) IntKind.u32 (dg (0 : Nat))])) (if (0 : Int) ≤ IntKind.i64.wrap (b.tdiv (32 : Int)) ∧ IntKind.i64.wrap (b.tdiv (32 : Int)) ≤ (↑a.length : Int) ∧ (↑a.length : Int) ≤ (↑a.length : Int) then if b.tmod (32 : Int) < (0 : Int) then none else gif (Dig (List.drop (IntKind.i64.wrap (b.tdiv (32 : Int))).toNat (List.take (↑a.length : Int).toNat a)) ∧ (List.drop (IntKind.i64.wrap (b.tdiv (32 : Int))).toNat (List.take (↑a.length : Int).toNat a)).length ≤ (1099511627776 : Nat) ∧ (0 : Int) < IntKind.u32.wrap ((1 : Int) * (↑((2 : Nat) ^ min (b.tmod (32 : Int)).toNat (32 : Nat)) : Int)) ∧ IntKind.u32.wrap ((1 : Int) * (↑((2 : Nat) ^ min (b.tmod (32 : Int)).toNat (32 : Nat)) : Int)) < (4294967296 : Int)) (some [D.own (180 : Nat) IntKind.u32 (dg (val (List.drop (IntKind.i64.wrap (b.tdiv (32 : Int))).toNat (List.take (↑a.length : Int).toNat a)) / (IntKind.u32.wrap ((1 : Int) * (↑((2 : Nat) ^ min (b.tmod (32 : Int)).toNat (32 : Nat)) : Int))).toNat))]) else none)) := (evalFn_J rfl nok _).trans (by kernel_rfl)
-- stuck: 0
end Shr
namespace Shr
noncomputable def sp (a : List Int) (n : Int) : Prop × List D := (Dig a ∧ a.length ≤ 1099511627776 ∧ n < 9223372036854775808, [.own tU32 .u32 (dg (val a / 2 ^ n.toNat))])
theorem spec (a : List Int) (n : Int) (h : (sp a n).1) : evalFn E Tryz.f86 cod [(pI .u32).put a, (pN .i64).put n] = some (sp a n).2 := by
  obtain ⟨ha, h1, h2⟩ := h
  refine (start a n).trans ?_
  show _ = some [D.own tU32 .u32 (dg (val a / 2 ^ n.toNat))]
  by_cases hn : n ≤ 0
  · rw [bD_pos hn, gP ⟨ha, by omega⟩, show n.toNat = 0 from by omega, Nat.pow_zero, Nat.div_one]
  · have e1 : (n % 32).toNat = n.toNat % 32 := by omega
    have e2 : (n / 32).toNat = n.toNat / 32 := by omega
    rw [bD_neg hn, tdiv32 (by omega), tmod32 (by omega), wrap_i64 (n := n / 32) (by omega) (by omega)]
    by_cases hz : (a.length : Int) ≤ n / 32
    · rw [bD_pos hz, gP ⟨by omega, by omega⟩, Nat.div_eq_of_lt]
      rw [pow_split]
      have h3 : val a < 4294967296 ^ (n.toNat / 32) := Nat.lt_of_lt_of_le (val_lt ha) (Nat.pow_le_pow_right (by omega) (by omega))
      have hp0 : 0 < 2 ^ (n.toNat % 32) := Nat.pow_pos (by omega)
      exact Nat.lt_of_lt_of_le h3 (Nat.le_mul_of_pos_right _ hp0)
    · have hp : 2 ^ (n.toNat % 32) < 2 ^ 32 := Nat.pow_lt_pow_right (by omega) (by omega)
      have hp0 : 0 < 2 ^ (n.toNat % 32) := Nat.pow_pos (by omega)
      rw [bD_neg hz, if_pos ⟨by omega, by omega, by omega⟩, if_neg (by omega), shl_wrap (by omega) (by omega), Int.toNat_natCast, List.take_length, e1, e2]
      rw [gP ⟨ha.drop _, by rw [List.length_drop]; omega, by generalize 2 ^ (n.toNat % 32) = p at *; omega⟩, Int.toNat_natCast, val_drop_div ha, div_split]

noncomputable def orc : Orc := orc2 (pI .u32) (pN .i64) sp
theorem fnok : FnOk Tryz.prog E 86 Tryz.f86 cod := fnOk ty_ok mixed (callsOk_of _ rfl (orcs_cons Norm.ok (orcs_cons Word.ok (orcs_cons DivSmall.ok orcs_nil))) (ext_ok)) Tryz.func86 rfl rfl rfl
theorem ok : OrcOk Tryz.prog base.glob 86 orc := fnok.ok2 rfl spec
end Shr
end Go.Proofs.YtfebndgmmekmgaaGreatDoor.W

/- gnomon/gnomonref01.To -/
namespace Go.Proofs.YtfebndgmmekmgaaGreatDoor.W
open Go Go.Proofs.YtfebndgmmekmgaaGreatDoor.AI Go.Proofs.YtfebndgmmekmgaaGreatDoor.M
namespace To
noncomputable def E : Env := { ({ base with C := callsOf [(132, Norm.orc)] }) with nt := 44, own := [], keep := fun k => (tlook [(4, [3, 4, 5])] k).getD [], cut := tlook [] }
noncomputable def cod : Code := (Go.Proofs.Tryz.f141.body).getD .skip
theorem nok : namesOk E cod = true := by kernel_rfl
noncomputable def L4 (xs0 : List Int) (m1 : Nat) (xs2 : List Int) (x3 : Int) : Option (List D) := lpO E Go.Proofs.Tryz.f141 cod 4 [(A.v (V.one (L.s (S.ints IntKind.u32 xs0))), none), (A.v (V.one (L.buf (1 : Nat) m1)), some { e := (24 : Nat), cont := Cont.ints IntKind.u64 xs2 }), (A.v (V.one (L.s (S.sc (Value.int IntKind.i64 x3)))), none)]
theorem start (a : List Int) : evalFn E Go.Proofs.Tryz.f141 cod [D.s (S.ints IntKind.u32 a)] = gif (Dig a ∧ a.length ≤ (4398046511104 : Nat)) (if (0 : Int) ≤ (0 : Int) ∧ (0 : Int) ≤ IntKind.i64.wrap (IntKind.i64.wrap ((↑(dg (val a)).length : Int).tdiv (2 : Int)) + (1 : Int)) ∧ IntKind.i64.wrap (IntKind.i64.wrap ((↑(dg (val a)).length : Int).tdiv (2 : Int)) + (1 : Int)) ≤ (8796093022208 : Int) then To.L4 (dg (val a)) (0 : Nat) (List.replicate (0 : Nat) (0 : Int)) (0 : Int) else none) := (evalFn_J rfl nok _).trans (by kernel_rfl)
theorem L4_eq (xs0 : List Int) (m1 : Nat) (xs2 : List Int) (x3 : Int) : L4 xs0 m1 xs2 x3 = bcase (decide (x3 < (↑xs0.length : Int))) (if (0 : Int) ≤ x3 ∧ x3 < (↑xs0.length : Int) then bcase (decide (IntKind.i64.wrap (x3 + (1 : Int)) < (↑xs0.length : Int))) (if (0 : Int) ≤ IntKind.i64.wrap (x3 + (1 : Int)) ∧ IntKind.i64.wrap (x3 + (1 : Int)) < (↑xs0.length : Int) then if (0 : Nat) < [IntKind.u64.wrap (IntKind.u64.wrap (xs0.getD x3.toNat (0 : Int)) + IntKind.u64.wrap (IntKind.u64.wrap (xs0.getD (IntKind.i64.wrap (x3 + (1 : Int))).toNat (0 : Int)) * (4294967296 : Int)))].length ∧ (↑(xs2.length + [IntKind.u64.wrap (IntKind.u64.wrap (xs0.getD x3.toNat (0 : Int)) + IntKind.u64.wrap (IntKind.u64.wrap (xs0.getD (IntKind.i64.wrap (x3 + (1 : Int))).toNat (0 : Int)) * (4294967296 : Int)))].length) : Int) ≤ (8796093022208 : Int) then To.L4 xs0 (xs2.length + [IntKind.u64.wrap (IntKind.u64.wrap (xs0.getD x3.toNat (0 : Int)) + IntKind.u64.wrap (IntKind.u64.wrap (xs0.getD (IntKind.i64.wrap (x3 + (1 : Int))).toNat (0 : Int)) * (4294967296 : Int)))].length) (xs2 ++ [IntKind.u64.wrap (IntKind.u64.wrap (xs0.getD x3.toNat (0 : Int)) + IntKind.u64.wrap (IntKind.u64.wrap (xs0.getD (IntKind.i64.wrap (x3 + (1 : Int))).toNat (0 : Int)) * (4294967296 : Int)))]) (IntKind.i64.wrap (x3 + (2 : Int))) else none else none) (if (0 : Nat) < [IntKind.u64.wrap (xs0.getD x3.toNat (0 : Int))].length ∧ (↑(xs2.length + [IntKind.u64.wrap (xs0.getD x3.toNat (0 : Int))].length) : Int) ≤ (8796093022208 : Int) then To.L4 xs0 (xs2.length + [IntKind.u64.wrap (xs0.getD x3.toNat (0 : Int))].length) (xs2 ++ [IntKind.u64.wrap (xs0.getD x3.toNat (0 : Int))]) (IntKind.i64.wrap (x3 + (2 : Int))) else none) else none) (some [D.own (24 : Nat) IntKind.u64 xs2]) := (loopAt_J rfl nok 4 _).trans (by kernel_rfl)
-- stuck: 0
end To
namespace To
theorem L {d : List Int} (hd : Nrm d) (hl : d.length ≤ 4398046511104) : ∀ (k i : Nat) (xs : List Int), i + k ≥ d.length → i ≤ d.length + 1 → xs.length ≤ i →
    L4 d xs.length xs i = some [D.own tU64 .u64 (xs ++ M6.dg (val (d.drop i)))] := by
  intro k
  induction k using Nat.strongRecOn with
  | _ k ih =>
    intro i xs hk hi hxl
    rw [L4_eq]
    by_cases h : i < d.length
    · have g0 := hd.dig.get i
      have g1 := hd.dig.get (i + 1)
      have e' : ((i : Int)).toNat = i := Int.toNat_natCast i
      have e1 : ((i : Int) + 1).toNat = i + 1 := by omega
      have hz : val (d.drop i) ≠ 0 := by
        intro h0
        have hn : Nrm (d.drop i) := nrm_of (hd.dig.drop i) fun e he => hd.top (by
          rw [List.getLast?_drop] at he
          rw [if_neg (by omega)] at he
          exact he)
        have := (len_zero hn).2 h0
        rw [List.length_drop] at this
        omega
      have ev := val_drop_one (a := d) i
      have ev1 : val (d.drop (i + 1)) = (d.getD (i + 1) 0).toNat + 4294967296 * val (d.drop (i + 2)) := val_drop_one (i + 1)
      have key : M6.dg (val (d.drop i)) = (d.getD i 0 + d.getD (i + 1) 0 * 4294967296) :: M6.dg (val (d.drop (i + 2))) := by
        rw [M6.dg_pos hz]
        congr 1
        · omega
        · congr 1; omega
      rw [bD_pos (by omega), if_pos (by omega), e', wrap_i64 (n := (i : Int) + 1) (by omega) (by omega), wrap_i64 (n := (i : Int) + 2) (by omega) (by omega), e1, wrap_u64 (n := d.getD i 0) (by omega) (by omega), wrap_u64 (n := d.getD (i + 1) 0) (by omega) (by omega),
        wrap_u64 (n := d.getD (i + 1) 0 * 4294967296) (by omega) (by omega), wrap_u64 (by omega) (by omega)]
      by_cases h1 : i + 1 < d.length
      · rw [bD_pos (by omega), if_pos (by omega), if_pos ⟨by simp, by simp; omega⟩]
        have := ih (k - 2) (by omega) (i + 2) (xs ++ [d.getD i 0 + d.getD (i + 1) 0 * 4294967296]) (by omega) (by omega) (by simp; omega)
        simp only [List.length_append, List.length_cons, List.length_nil] at this ⊢
        rw [show ((i : Int) + 2) = ((i + 2 : Nat) : Int) from by omega, this, key, List.append_assoc]
        rfl
      · have hd1 : d.getD (i + 1) 0 = 0 := getD_none (by omega)
        rw [bD_neg (by omega), if_pos ⟨by simp, by simp; omega⟩]
        have := ih (k - 1) (by omega) (i + 2) (xs ++ [d.getD i 0]) (by omega) (by omega) (by simp; omega)
        simp only [List.length_append, List.length_cons, List.length_nil] at this ⊢
        rw [show ((i : Int) + 2) = ((i + 2 : Nat) : Int) from by omega, this, key, hd1, Int.zero_mul, Int.add_zero, List.append_assoc]
        rfl
    · rw [bD_neg (by omega), List.drop_eq_nil_of_le (by omega)]
      simp [val, M6.dg_zero]

noncomputable def sp (a : List Int) : Prop × List D := (Dig a ∧ a.length ≤ 1099511627776, [.own tU64 .u64 (M6.dg (val a))])
theorem spec (a : List Int) (h : (sp a).1) : evalFn E Tryz.f141 cod [(pI .u32).put a] = some (sp a).2 := by
  obtain ⟨ha, h1⟩ := h
  refine (start a).trans ?_
  have := len_val ha
  rw [gP ⟨ha, by omega⟩, Int.tdiv_eq_ediv_of_nonneg (by omega), wrap_i64 (n := ((dg (val a)).length : Int) / 2) (by omega) (by omega), wrap_i64 (by omega) (by omega), if_pos ⟨by omega, by omega, by omega⟩]
  have := L (nrm_dg (val a)) (by omega) (dg (val a)).length 0 [] (by omega) (by omega) (by simp)
  simp only [List.length_nil, List.drop_zero, List.nil_append, val_dg] at this
  exact this

noncomputable def orc : Orc := orc1 (pI .u32) sp
theorem fnok : FnOk Tryz.prog E 141 Tryz.f141 cod := fnOk ty_ok mixed (callsOk_of _ rfl (orcs_cons Norm.ok orcs_nil) (ext_ok)) Tryz.func141 rfl rfl rfl
theorem ok : OrcOk Tryz.prog base.glob 141 orc := fnok.ok1 rfl spec
end To
end Go.Proofs.YtfebndgmmekmgaaGreatDoor.W

/- gnomon/gnomonref04.To -/
namespace Go.Proofs.YtfebndgmmekmgaaGreatDoor.W
open Go Go.Proofs.YtfebndgmmekmgaaGreatDoor.AI Go.Proofs.YtfebndgmmekmgaaGreatDoor.M
namespace ZTo
noncomputable def E : Env := { ({ base with C := callsOf [(141, To.orc)] }) with nt := 15, own := [], keep := fun k => (tlook [] k).getD [], cut := tlook [] }
noncomputable def cod : Code := (Go.Proofs.Tryz.f87.body).getD .skip
theorem nok : namesOk E cod = true := by kernel_rfl
theorem start (a1 : Bool) (a2 : List Int) : evalFn E Go.Proofs.Tryz.f87 cod [D.agg [S.sc (Value.bool a1), S.ints IntKind.u32 a2]] = bcase a1 (gif (Dig a2 ∧ a2.length ≤ (1099511627776 : Nat)) (some [D.agg [S.sc (Value.bool (decide ((0 : Int) < (↑a2.length : Int)))), S.ints IntKind.u64 (M6.dg (val a2))]])) (gif (Dig a2 ∧ a2.length ≤ (1099511627776 : Nat)) (some [D.agg [S.sc (Value.bool false), S.ints IntKind.u64 (M6.dg (val a2))]])) := (evalFn_J rfl nok _).trans (by kernel_rfl)
-- stuck: 0
end ZTo
namespace ZTo
noncomputable def sp (x : Bool × List Int) : Prop × List D := (Zok x, [wD (zv x)])
theorem spec (x : Bool × List Int) (h : (sp x).1) : evalFn E Tryz.f87 cod [(pG (.pair sB (sI .u32))).put x] = some (sp x).2 := by
  have h : Zok x := h
  have l := h.len
  have hz := len_zero h.1
  refine (start x.1 x.2).trans ?_
  obtain ⟨b, a⟩ := x
  dsimp only at *
  show _ = some [wD (zs b (val a))]
  rw [wD_zs]
  cases b with
  | false => rw [bF, gP ⟨h.1.dig, by omega⟩]; rfl
  | true =>
    rw [bT, gP ⟨h.1.dig, by omega⟩, Bool.true_and]
    have : decide (0 < (a.length : Int)) = decide (val a ≠ 0) := by
      by_cases h : val a = 0
      · rw [decide_eq_false (by omega), decide_eq_false (by omega)]
      · rw [decide_eq_true (by omega), decide_eq_true h]
    rw [this]

noncomputable def orc : Orc := orc1 (pG (.pair sB (sI .u32))) sp
theorem fnok : FnOk Tryz.prog E 87 Tryz.f87 cod := fnOk ty_ok mixed (callsOk_of _ rfl (orcs_cons To.ok orcs_nil) (ext_ok)) Tryz.func87 rfl rfl rfl
theorem ok : OrcOk Tryz.prog base.glob 87 orc := fnok.ok1 rfl spec
end ZTo
end Go.Proofs.YtfebndgmmekmgaaGreatDoor.W

/- gnomon/gnomonref05.Told -/
namespace Go.Proofs.YtfebndgmmekmgaaGreatDoor.W
open Go Go.Proofs.YtfebndgmmekmgaaGreatDoor.AI Go.Proofs.YtfebndgmmekmgaaGreatDoor.M
namespace Told5
noncomputable def E : Env := { ({ base with C := callsOf [(85, Zeros.orc), (86, Shr.orc), (79, Mk.orc), (87, ZTo.orc)] }) with nt := 52, own := [], keep := fun k => (tlook [] k).getD [], cut := tlook [(5, [1, 2, 4]), (9, [1, 2, 4, 6, 7])] }
noncomputable def cod : Code := (Go.Proofs.Tryz.f37.body).getD .skip
theorem nok : namesOk E cod = true := by kernel_rfl
noncomputable def J5 (x0 : Int) (b1 : Bool) (xs2 : List Int) (b3 : Bool) (x4 : Int) : Option (List D) := ctO E Go.Proofs.Tryz.f37 cod 5 [(A.v (V.one (L.s (S.sc (Value.int IntKind.i64 x0)))), none), (A.v (V.one (L.ptr (1 : Nat) (0 : Nat))), some { e := (76 : Nat), cont := Cont.cells [S.sc (Value.bool b1), S.ints IntKind.u32 xs2] }), (A.v (V.one (L.ptr (2 : Nat) (0 : Nat))), some { e := (28 : Nat), cont := Cont.cells [S.sc (Value.bool b3), S.sc (Value.slice none (0 : Nat) (0 : Nat)), S.sc (Value.int IntKind.i64 x4)] })]
noncomputable def J9 (x0 : Int) (b1 : Bool) (xs2 : List Int) (b3 : Bool) (x4 : Int) (x5 : Int) (xs6 : List Int) : Option (List D) := ctO E Go.Proofs.Tryz.f37 cod 9 [(A.v (V.one (L.s (S.sc (Value.int IntKind.i64 x0)))), none), (A.v (V.one (L.ptr (1 : Nat) (0 : Nat))), some { e := (76 : Nat), cont := Cont.cells [S.sc (Value.bool b1), S.ints IntKind.u32 xs2] }), (A.v (V.one (L.ptr (2 : Nat) (0 : Nat))), some { e := (28 : Nat), cont := Cont.cells [S.sc (Value.bool b3), S.sc (Value.slice none (0 : Nat) (0 : Nat)), S.sc (Value.int IntKind.i64 x4)] }), (A.v (V.one (L.s (S.sc (Value.int IntKind.i64 x5)))), none), (A.v (V.one (L.s (S.ints IntKind.u32 xs6))), none)]
theorem start (a1 : Bool) (a2 : List Int) (b : Int) : evalFn E Go.Proofs.Tryz.f37 cod [D.agg [S.sc (Value.bool a1), S.ints IntKind.u32 a2], D.s (S.sc (Value.int IntKind.i64 b))] = bcase ((↑a2.length : Int) == (0 : Int)) (some [D.agg [S.sc (Value.bool false), S.sc (Value.slice none (0 : Nat) (0 : Nat)), S.sc (Value.int IntKind.i64 (0 : Int))], D.s (S.sc (Value.int IntKind.i64 (0 : Int)))]) (bcase (decide ((1048576 : Int) < b)) (some [D.agg [S.sc (Value.bool false), S.sc (Value.slice none (0 : Nat) (0 : Nat)), S.sc (Value.int IntKind.i64 (0 : Int))], D.s (S.sc (Value.int IntKind.i64 (5 : Int)))]) (bcase (decide (b < (-1099511627776 : Int))) (some [D.agg [S.sc (Value.bool false), S.sc (Value.slice none (0 : Nat) (0 : Nat)), S.sc (Value.int IntKind.i64 (0 : Int))], D.s (S.sc (Value.int IntKind.i64 (5 : Int)))]) (Told5.J5 b a1 a2 false (0 : Int)))) := (evalFn_J rfl nok _).trans (by kernel_rfl)
theorem J5_eq (x0 : Int) (b1 : Bool) (xs2 : List Int) (b3 : Bool) (x4 : Int) : J5 x0 b1 xs2 b3 x4 = gif (Nrm xs2 ∧ xs2.length ≤ (1099511627776 : Nat)) (vlet (if val xs2 = (0 : Nat) then (0 : Int) else (↑(tz (val xs2)) : Int)) fun y0 => gif (Dig xs2 ∧ xs2.length ≤ (1099511627776 : Nat) ∧ y0 < (9223372036854775808 : Int)) (vlet (dg (val xs2 / (2 : Nat) ^ y0.toNat)) fun y1 => bcase (decide ((16384 : Int) < (↑y1.length : Int))) (some [D.agg [S.sc (Value.bool false), S.sc (Value.slice none (0 : Nat) (0 : Nat)), S.sc (Value.int IntKind.i64 (0 : Int))], D.s (S.sc (Value.int IntKind.i64 (5 : Int)))]) (bcase (decide (IntKind.i64.wrap (x0 + y0) < (-1048576 : Int))) (some [D.agg [S.sc (Value.bool false), S.sc (Value.slice none (0 : Nat) (0 : Nat)), S.sc (Value.int IntKind.i64 (0 : Int))], D.s (S.sc (Value.int IntKind.i64 (5 : Int)))]) (bcase (decide ((1048576 : Int) < IntKind.i64.wrap (x0 + y0))) (some [D.agg [S.sc (Value.bool false), S.sc (Value.slice none (0 : Nat) (0 : Nat)), S.sc (Value.int IntKind.i64 (0 : Int))], D.s (S.sc (Value.int IntKind.i64 (5 : Int)))]) (Told5.J9 x0 b1 xs2 b3 x4 y0 y1))))) := (cutAt_J rfl nok 5 _).trans (by kernel_rfl)
theorem J9_eq (x0 : Int) (b1 : Bool) (xs2 : List Int) (b3 : Bool) (x4 : Int) (x5 : Int) (xs6 : List Int) : J9 x0 b1 xs2 b3 x4 x5 xs6 = gif (Dig xs6 ∧ xs6.length ≤ (4398046511104 : Nat)) (gif (Zok (isNeg (zs b1 (val xs6)), dg (zs b1 (val xs6)).natAbs)) (vlet (isNeg (zv (isNeg (zs b1 (val xs6)), dg (zs b1 (val xs6)).natAbs))) fun y2 => vlet (M6.dg (zv (isNeg (zs b1 (val xs6)), dg (zs b1 (val xs6)).natAbs)).natAbs) fun y3 => some [D.agg [S.sc (Value.bool y2), S.ints IntKind.u64 y3, S.sc (Value.int IntKind.i64 (IntKind.i64.wrap (x0 + x5)))], D.s (S.sc (Value.int IntKind.i64 (0 : Int)))])) := (cutAt_J rfl nok 9 _).trans (by kernel_rfl)
-- stuck: 0
end Told5
namespace Told5
/-- m * 2^e in form, where it fits. -/
def toldOk (z e : Int) : Bool := inD z e && fit (nrmD z e).1.natAbs
noncomputable def sp (x : Bool × List Int) (e : Int) : Prop × List D := (Zok x ∧ x.2.length ≤ 268435456 ∧ -4611686018427387904 ≤ e ∧ e < 4611686018427387904, dE (toldOk (zv x) e) (nrmD (zv x) e))
theorem nil_dE (p : Int × Int) (ok : Bool) (n : Int) (h1 : ok = true → p = (0, 0)) (h2 : n = bif ok then 0 else 5) : RsLe [D.agg [.sc (.bool false), .sc (.slice none 0 0), .sc (.int .i64 0)], .s (.sc (.int .i64 n))] (dE ok p) := by
  subst h2
  have : (bif ok then p else ((0 : Int), (0 : Int))) = (0, 0) := by
    cases ok with
    | true => exact h1 rfl
    | false => rfl
  unfold dE
  rw [this]
  refine .cons ?_ (RsLe.refl _)
  unfold dD
  rw [show ((0, 0) : Int × Int).1.natAbs = 0 from rfl, M6.dg_zero]
  exact RLe.agg (.cons (SLe.refl _) (.cons (SLe.nil _) (CsLe.refl _)))
theorem len_le_bl {n k : Nat} (h : bl n ≤ 32 * k) : (dg n).length ≤ k := len_dg_le (by rw [pow32]; exact bl_le.1 h)
theorem fit_len {n : Nat} : fit n = decide ((dg n).length ≤ 16384) := by
  unfold fit
  by_cases h : bl n ≤ 524288
  · rw [decide_eq_true h, decide_eq_true (len_le_bl (k := 16384) (by omega))]
  · rw [decide_eq_false h, decide_eq_false (fun hl => h ?_)]
    have := bl_len (dig_dg n) hl
    rw [val_dg] at this
    omega
theorem spec (x : Bool × List Int) (e : Int) (h : (sp x e).1) : ∃ rs, evalFn E Tryz.f37 cod [(pG (.pair sB (sI .u32))).put x, (pN .i64).put e] = some rs ∧ RsLe rs (sp x e).2 := by
  obtain ⟨hx, lx, he0, he1⟩ := h
  have s := start x.1 x.2 e
  have hz := len_zero hx.1
  have bx := bl_len hx.1.dig lx
  have hn := hx.1
  obtain ⟨b, a⟩ := x
  dsimp only at *
  unfold sp
  dsimp only
  have ha : (zv (b, a)).natAbs = val a := zv_abs (b, a)
  by_cases h0 : a.length = 0
  · have hv : zv (b, a) = 0 := by have := hz.1 h0; omega
    rw [bE_pos (by omega)] at s
    exact ⟨_, s, nil_dE _ _ _ (fun _ => by rw [hv, nrmD_zero]) (by unfold toldOk; rw [hv, nrmD_zero]; rfl)⟩
  · have hv : val a ≠ 0 := fun h => h0 (hz.2 h)
    have hw : zv (b, a) ≠ 0 := by omega
    have ht := tz_bl hv
    obtain ⟨n1, n2⟩ := nrmD_val (e := e) hw
    rw [ha] at n2
    have hin : inD (zv (b, a)) e = (decide (-1048576 ≤ e + ((tz (val a) : Nat) : Int)) && decide (e + ((tz (val a) : Nat) : Int) ≤ 1048576)) := by
      unfold inD
      rw [decide_eq_false hw, Bool.false_or, ha]
    have hnf : nrmD (zv (b, a)) e = (zs b (val a / 2 ^ tz (val a)), e + ((tz (val a) : Nat) : Int)) := by
      unfold nrmD
      rw [if_neg hw, ha]
      have := zs_div (b := b) (Nat.pow_pos (n := tz (val a)) (show 0 < 2 by decide)) (tz_spec _ hv).1
      rw [← this]
      rfl
    have hfit : fit (nrmD (zv (b, a)) e).1.natAbs = decide ((dg (val a / 2 ^ tz (val a))).length ≤ 16384) := by
      rw [hnf, ← fit_len]
      dsimp only
      rw [zs_abs]
    have no : inD (zv (b, a)) e = false → toldOk (zv (b, a)) e = false := fun h => by unfold toldOk; rw [h]; rfl
    rw [bE_neg (by omega)] at s
    by_cases c1 : 1048576 < e
    · rw [bD_pos c1] at s
      exact ⟨_, s, nil_dE _ _ _ (fun h => by rw [no (by rw [hin, decide_eq_false (show ¬ e + ((tz (val a) : Nat) : Int) ≤ 1048576 by omega), Bool.and_false])] at h; cases h) (by rw [no (by rw [hin, decide_eq_false (show ¬ e + ((tz (val a) : Nat) : Int) ≤ 1048576 by omega), Bool.and_false])]; rfl)⟩
    · rw [bD_neg c1] at s
      by_cases c2 : e < -1099511627776
      · rw [bD_pos c2] at s
        have hf : toldOk (zv (b, a)) e = false := no (by rw [hin, decide_eq_false (show ¬ -1048576 ≤ e + ((tz (val a) : Nat) : Int) by omega), Bool.false_and])
        exact ⟨_, s, nil_dE _ _ _ (fun h => by rw [hf] at h; cases h) (by rw [hf]; rfl)⟩
      · have hdl := len_dg_div (val a) (2 ^ tz (val a))
        rw [show (dg (val a)).length = a.length from nrm_len hn] at hdl
        rw [bD_neg c2, J5_eq, gP ⟨hn, by omega⟩, if_neg hv, vl, gP ⟨hn.dig, by omega, by omega⟩, Int.toNat_natCast, vl, wrap_i64 (n := e + ((tz (val a) : Nat) : Int)) (by omega) (by omega)] at s
        by_cases c3 : (16384 : Int) < ((dg (val a / 2 ^ tz (val a))).length : Int)
        · rw [bD_pos c3] at s
          have hf : toldOk (zv (b, a)) e = false := by unfold toldOk; rw [hfit, decide_eq_false (by omega), Bool.and_false]
          exact ⟨_, s, nil_dE _ _ _ (fun h => by rw [hf] at h; cases h) (by rw [hf]; rfl)⟩
        · rw [bD_neg c3] at s
          by_cases c4 : e + ((tz (val a) : Nat) : Int) < -1048576
          · rw [bD_pos c4] at s
            have hf : toldOk (zv (b, a)) e = false := no (by rw [hin, decide_eq_false (show ¬ -1048576 ≤ e + ((tz (val a) : Nat) : Int) by omega), Bool.false_and])
            exact ⟨_, s, nil_dE _ _ _ (fun h => by rw [hf] at h; cases h) (by rw [hf]; rfl)⟩
          · rw [bD_neg c4] at s
            by_cases c5 : 1048576 < e + ((tz (val a) : Nat) : Int)
            · rw [bD_pos c5] at s
              have hf : toldOk (zv (b, a)) e = false := no (by rw [hin, decide_eq_false (show ¬ e + ((tz (val a) : Nat) : Int) ≤ 1048576 by omega), Bool.and_false])
              exact ⟨_, s, nil_dE _ _ _ (fun h => by rw [hf] at h; cases h) (by rw [hf]; rfl)⟩
            · have hz1 : Zok (isNeg (zs b (val a / 2 ^ tz (val a))), dg (zs b (val a / 2 ^ tz (val a))).natAbs) := zok_zD (by rw [zs_abs]; omega)
              rw [bD_neg c5, J9_eq, gP ⟨dig_dg _, by omega⟩, val_dg, gP hz1, zv_zD, vl, vl, wrap_i64 (n := e + ((tz (val a) : Nat) : Int)) (by omega) (by omega)] at s
              refine ⟨_, s, ?_⟩
              have ht : toldOk (zv (b, a)) e = true := by
                unfold toldOk
                rw [hin, hfit, decide_eq_true (show -1048576 ≤ e + ((tz (val a) : Nat) : Int) by omega), decide_eq_true (show e + ((tz (val a) : Nat) : Int) ≤ 1048576 by omega), decide_eq_true (by omega)]
                rfl
              rw [ht, hnf]
              exact RsLe.refl _

noncomputable def orc : Orc := orc2 (pG (.pair sB (sI .u32))) (pN .i64) sp
theorem fnok : FnOk Tryz.prog E 37 Tryz.f37 cod := fnOk ty_ok mixed (callsOk_of _ rfl (orcs_cons Zeros.ok (orcs_cons Shr.ok (orcs_cons Mk.ok (orcs_cons ZTo.ok orcs_nil)))) (ext_ok)) Tryz.func37 rfl rfl rfl
theorem ok : OrcOk Tryz.prog base.glob 37 orc := fnok.wk2 rfl spec
end Told5
end Go.Proofs.YtfebndgmmekmgaaGreatDoor.W

/- gnomon/gnomonref05.DocOf -/
namespace Go.Proofs.YtfebndgmmekmgaaGreatDoor.W
open Go Go.Proofs.YtfebndgmmekmgaaGreatDoor.AI Go.Proofs.YtfebndgmmekmgaaGreatDoor.M
namespace DocOf5
noncomputable def E : Env := { ({ base with C := callsOf [(90, ZOf.orc), (37, Told5.orc)] }) with nt := 12, own := [], keep := fun k => (tlook [] k).getD [], cut := tlook [] }
noncomputable def cod : Code := (Go.Proofs.Tryz.f74.body).getD .skip
theorem nok : namesOk E cod = true := by kernel_rfl
theorem start (a : Int) : evalFn E Go.Proofs.Tryz.f74 cod [D.s (S.sc (Value.int IntKind.i64 a))] = gif ((-9223372036854775808 : Int) ≤ a ∧ a < (9223372036854775808 : Int)) (gif (Zok (isNeg a, dg a.natAbs) ∧ (isNeg a, dg a.natAbs).snd.length ≤ (268435456 : Nat) ∧ (-4611686018427387904 : Int) ≤ (0 : Int) ∧ (0 : Int) < (4611686018427387904 : Int)) (vlet (isNeg (bif Told5.toldOk (zv (isNeg a, dg a.natAbs)) (0 : Int) then nrmD (zv (isNeg a, dg a.natAbs)) (0 : Int) else ((0 : Int), (0 : Int))).fst) fun y0 => vlet (M6.dg (bif Told5.toldOk (zv (isNeg a, dg a.natAbs)) (0 : Int) then nrmD (zv (isNeg a, dg a.natAbs)) (0 : Int) else ((0 : Int), (0 : Int))).fst.natAbs) fun y1 => vlet (bif Told5.toldOk (zv (isNeg a, dg a.natAbs)) (0 : Int) then nrmD (zv (isNeg a, dg a.natAbs)) (0 : Int) else ((0 : Int), (0 : Int))).snd fun y2 => some [D.agg [S.sc (Value.bool y0), S.ints IntKind.u64 y1, S.sc (Value.int IntKind.i64 y2)]])) := (evalFn_J rfl nok _).trans (by kernel_rfl)
-- stuck: 0
end DocOf5
namespace DocOf5
noncomputable def sp (a : Int) : Prop × List D := (-9223372036854775808 ≤ a ∧ a < 9223372036854775808, [dD (nrmD a 0)])
theorem spec (a : Int) (h : (sp a).1) : evalFn E Tryz.f74 cod [(pN .i64).put a] = some (sp a).2 := by
  have h : -9223372036854775808 ≤ a ∧ a < 9223372036854775808 := h
  have hb : bl a.natAbs ≤ 64 := bl_le.2 (by omega)
  have hl : (dg a.natAbs).length ≤ 2 := len_dg_le (by omega)
  refine (start a).trans ((gP h).trans ((gP ⟨zok_zD (by omega), by dsimp only; omega, by omega, by omega⟩).trans ?_))
  rw [zv_zD]
  have : Told5.toldOk a 0 = true := by
    unfold Told5.toldOk fit
    have := nrmD_abs a 0
    rw [inD_of (by omega) (by omega), decide_eq_true (Nat.le_trans (bl_mono this) (by omega))]
    rfl
  rw [this, cond_true, vl_dy]
  rfl

noncomputable def orc : Orc := orc1 (pN .i64) sp
theorem fnok : FnOk Tryz.prog E 74 Tryz.f74 cod := fnOk ty_ok mixed (callsOk_of _ rfl (orcs_cons ZOf.ok (orcs_cons Told5.ok orcs_nil)) (ext_ok)) Tryz.func74 rfl rfl rfl
theorem ok : OrcOk Tryz.prog base.glob 74 orc := fnok.ok1 rfl spec
end DocOf5
end Go.Proofs.YtfebndgmmekmgaaGreatDoor.W

/- gnomon/gnomonlaw17.point -/
namespace Go.Proofs.YtfebndgmmekmgaaGreatDoor.W
open Go Go.Proofs.YtfebndgmmekmgaaGreatDoor.AI Go.Proofs.YtfebndgmmekmgaaGreatDoor.M
namespace LPoint
noncomputable def E : Env := { ({ base with C := callsOf [(74, DocOf5.orc)] }) with nt := 8, own := [], keep := fun k => (tlook [] k).getD [], cut := tlook [] }
noncomputable def cod : Code := (Go.Proofs.Tryz.f30.body).getD .skip
theorem nok : namesOk E cod = true := by kernel_rfl
theorem start (a : Int) : evalFn E Go.Proofs.Tryz.f30 cod [D.s (S.sc (Value.int IntKind.i64 a))] = gif ((-9223372036854775808 : Int) ≤ a ∧ a < (9223372036854775808 : Int)) (vlet (isNeg (nrmD a (0 : Int)).fst) fun y0 => vlet (M6.dg (nrmD a (0 : Int)).fst.natAbs) fun y1 => vlet (nrmD a (0 : Int)).snd fun y2 => gif ((-9223372036854775808 : Int) ≤ a ∧ a < (9223372036854775808 : Int)) (vlet (isNeg (nrmD a (0 : Int)).fst) fun y3 => vlet (M6.dg (nrmD a (0 : Int)).fst.natAbs) fun y4 => vlet (nrmD a (0 : Int)).snd fun y5 => some [D.agg [S.sc (Value.bool y0), S.ints IntKind.u64 y1, S.sc (Value.int IntKind.i64 y2), S.sc (Value.bool y3), S.ints IntKind.u64 y4, S.sc (Value.int IntKind.i64 y5)]])) := (evalFn_J rfl nok _).trans (by kernel_rfl)
-- stuck: 0
end LPoint
namespace LPoint
noncomputable def sp (m : Int) : Prop × List D := (-9223372036854775808 ≤ m ∧ m < 9223372036854775808, [UPoint.sD (nrmD m 0) (nrmD m 0)])
theorem spec (m : Int) (h : (sp m).1) : evalFn E Tryz.f30 cod [(pN .i64).put m] = some (sp m).2 := by
  have h : -9223372036854775808 ≤ m ∧ m < 9223372036854775808 := h
  refine (start m).trans ?_
  rw [gP h, vl_dy, gP h, vl_dy]
  rfl

noncomputable def orc : Orc := orc1 (pN .i64) sp
theorem fnok : FnOk Tryz.prog E 30 Tryz.f30 cod := fnOk ty_ok mixed (callsOk_of _ rfl (orcs_cons DocOf5.ok orcs_nil) (ext_ok)) Tryz.func30 rfl rfl rfl
theorem ok : OrcOk Tryz.prog base.glob 30 orc := fnok.ok1 rfl spec
end LPoint
end Go.Proofs.YtfebndgmmekmgaaGreatDoor.W

/- gnomon/gnomonlaw17.awake -/
namespace Go.Proofs.YtfebndgmmekmgaaGreatDoor.W
open Go Go.Proofs.YtfebndgmmekmgaaGreatDoor.AI Go.Proofs.YtfebndgmmekmgaaGreatDoor.M
namespace LAwake
noncomputable def E : Env := { ({ base with C := callsOf [(9, UReduce.orc), (12, UExact.orc), (28, UEnclose.orc), (29, LSame.orc), (30, LPoint.orc)] }) with nt := 59, own := [57], keep := fun k => (tlook [] k).getD [], cut := tlook [] }
noncomputable def cod : Code := (Go.Proofs.Tryz.f8.body).getD .skip
theorem nok : namesOk E cod = true := by kernel_rfl
theorem start : evalFn E Go.Proofs.Tryz.f8 cod [] = gif ((0 : Int) ≤ (4598175219545276416 : Int) ∧ (4598175219545276416 : Int) < (18446744073709551616 : Int)) (vlet (isNeg (bif BFinite.finB (64 : Int) (4598175219545276416 : Int) then UReduce.redD (UReduce.numV (4598175219545276416 : Int)) else ((0 : Int), (0 : Int))).fst) fun y0 => gif ((0 : Int) ≤ (4609434218613702656 : Int) ∧ (4609434218613702656 : Int) < (18446744073709551616 : Int)) (gif (((0 : Int) ≤ (4609434218613702656 : Int) ∧ (4609434218613702656 : Int) < (18446744073709551616 : Int)) ∧ UEnclose.EncIn (4 : Int) (4609434218613702656 : Int) (7 : Int)) (vlet (isNeg (nrmD (UEnclose.encV (4 : Int) (4609434218613702656 : Int)) (0 : Int)).fst) fun y2 => vlet (M6.dg (nrmD (UEnclose.encV (4 : Int) (4609434218613702656 : Int)) (0 : Int)).fst.natAbs) fun y3 => vlet (nrmD (UEnclose.encV (4 : Int) (4609434218613702656 : Int)) (0 : Int)).snd fun y4 => vlet (isNeg (nrmD (UEnclose.encV (4 : Int) (4609434218613702656 : Int)) (0 : Int)).fst) fun y5 => vlet (M6.dg (nrmD (UEnclose.encV (4 : Int) (4609434218613702656 : Int)) (0 : Int)).fst.natAbs) fun y6 => vlet (nrmD (UEnclose.encV (4 : Int) (4609434218613702656 : Int)) (0 : Int)).snd fun y7 => bcase (!y0) (some [D.s (S.sc (Value.bool false))]) (gif ((-9223372036854775808 : Int) ≤ (-1 : Int) ∧ (-1 : Int) < (9223372036854775808 : Int)) (vlet (isNeg (nrmD (-1 : Int) (0 : Int)).fst) fun y8 => vlet (M6.dg (nrmD (-1 : Int) (0 : Int)).fst.natAbs) fun y9 => vlet (nrmD (-1 : Int) (0 : Int)).snd fun y10 => vlet (isNeg (nrmD (-1 : Int) (0 : Int)).fst) fun y11 => vlet (M6.dg (nrmD (-1 : Int) (0 : Int)).fst.natAbs) fun y12 => vlet (nrmD (-1 : Int) (0 : Int)).snd fun y13 => gif ((DyOk ((y2, y3, y4, y5, y6, y7).fst, (y3, y4, y5, y6, y7).fst, (y4, y5, y6, y7).fst) ∧ DyOk ((y8, y9, y10, y11, y12, y13).fst, (y9, y10, y11, y12, y13).fst, (y10, y11, y12, y13).fst)) ∧ DyOk ((y5, y6, y7).fst, (y6, y7).fst, (y6, y7).snd) ∧ DyOk ((y11, y12, y13).fst, (y12, y13).fst, (y12, y13).snd)) (vlet (decide (dv (LSame.lo (y2, y3, y4, y5, y6, y7)) = dv (LSame.lo (y8, y9, y10, y11, y12, y13))) && decide (dv (LSame.hi (y2, y3, y4, y5, y6, y7)) = dv (LSame.hi (y8, y9, y10, y11, y12, y13)))) fun y14 => some [D.s (S.sc (Value.bool y14))])))))) := (evalFn_J rfl nok _).trans (by kernel_rfl)
-- stuck: 0
end LAwake
namespace LAwake
theorem num1 : UReduce.numV 4598175219545276416 = (1, -2) := by
  have e1 : BValue.valZ 64 4598175219545276416 = 1 * p2 52 := by decide
  have e2 : BValue.valE 64 4598175219545276416 = -54 := by decide
  unfold UReduce.numV
  rw [e1, e2, nrmD_p2 _ _ (by omega)]
  exact nrmD_same (p := (1, -2)) (by decide) (by decide)
theorem num3 : UExact.numF 64 4609434218613702656 = (3, -1) := by
  have e1 : BValue.valZ 64 4609434218613702656 = 3 * p2 51 := by decide
  have e2 : BValue.valE 64 4609434218613702656 = -52 := by decide
  unfold UExact.numF
  rw [e1, e2, nrmD_p2 _ _ (by omega)]
  exact nrmD_same (p := (3, -1)) (by decide) (by decide)
theorem red1 : UReduce.redD (1, -2) = (-1, -2) := by
  have e1 : UReduce.redR (1, -2) = -(1 * p2 1) := by decide
  unfold UReduce.redD
  rw [e1, nrmD_neg, nrmD_p2 _ _ (by omega)]
  show (-(nrmD 1 (-2)).1, (nrmD 1 (-2)).2) = _
  rw [nrmD_same (p := (1, -2)) (by decide) (by decide)]
theorem fin1 : BFinite.finB 64 4598175219545276416 = true := by decide
theorem fin3 : BFinite.finB 64 4609434218613702656 = true := by decide
theorem enc3 : UEnclose.EncIn 4 4609434218613702656 7 ∧ UEnclose.encV 4 4609434218613702656 = -1 := by
  refine ⟨⟨rfl, by omega, by omega, fin3, fun _ => ?_⟩, ?_⟩
  · rw [num3]; exact ⟨rfl, by decide⟩
  · unfold UEnclose.encV
    rw [num3]
    rfl
noncomputable def sp : Prop × List D := (True, [.s (.sc (.bool true))])
theorem spec (h : sp.1) : evalFn E Tryz.f8 cod [] = some sp.2 := by
  have hn : PIn (nrmD (-1) 0) := pin_nrm (inD_of (by omega) (by have := bl_neg bl_one; omega)) (by have := bl_neg bl_one; omega)
  refine start.trans ?_
  rw [fin1, cond_true, num1, red1, gP (by omega), vl, gP (by omega), gP ⟨by omega, enc3.1⟩, enc3.2]
  show vlet (isNeg (nrmD (-1) 0).1) _ = _
  rw [vl_dy, vl_dy]
  show gif _ (vlet (isNeg (nrmD (-1) 0).1) _) = _
  rw [gP (by omega), vl_dy, vl_dy, gP ⟨⟨dyok_of hn, dyok_of hn⟩, dyok_of hn, dyok_of hn⟩, vl, decide_eq_true rfl, decide_eq_true rfl]
  rfl

noncomputable def orc : Orc := orc0  sp
theorem fnok : FnOk Tryz.prog E 8 Tryz.f8 cod := fnOk ty_ok mixed (callsOk_of _ rfl (orcs_cons UReduce.ok (orcs_cons UExact.ok (orcs_cons UEnclose.ok (orcs_cons LSame.ok (orcs_cons LPoint.ok orcs_nil))))) (ext_ok)) Tryz.func8 rfl rfl rfl
theorem ok : OrcOk Tryz.prog base.glob 8 orc := fnok.ok0 spec
end LAwake
end Go.Proofs.YtfebndgmmekmgaaGreatDoor.W

/- gnomon/gnomonlaw17.finite -/
namespace Go.Proofs.YtfebndgmmekmgaaGreatDoor.W
open Go Go.Proofs.YtfebndgmmekmgaaGreatDoor.AI Go.Proofs.YtfebndgmmekmgaaGreatDoor.M
namespace LFinite
noncomputable def E : Env := { (base) with nt := 6, own := [], keep := fun k => (tlook [] k).getD [], cut := tlook [] }
noncomputable def cod : Code := (Go.Proofs.Tryz.f14.body).getD .skip
theorem nok : namesOk E cod = true := by kernel_rfl
theorem start (a : Int) : evalFn E Go.Proofs.Tryz.f14 cod [D.s (S.sc (Value.int IntKind.u64 a))] = some [D.s (S.sc (Value.bool (decide (a.tmod (9223372036854775808 : Int) < (9218868437227405312 : Int)))))] := (evalFn_J rfl nok _).trans (by kernel_rfl)
-- stuck: 0
end LFinite
namespace LFinite
noncomputable def sp (b : Int) : Prop × List D := (0 ≤ b ∧ b < 18446744073709551616, [.s (.sc (.bool (BFinite.finB 64 b)))])
theorem spec (b : Int) (h : (sp b).1) : evalFn E Tryz.f14 cod [(pN .u64).put b] = some (sp b).2 := by
  have h : 0 ≤ b ∧ b < 18446744073709551616 := h
  refine (start b).trans ?_
  rw [Int.tmod_eq_emod_of_nonneg h.1]
  rfl

noncomputable def orc : Orc := orc1 (pN .u64) sp
theorem fnok : FnOk Tryz.prog E 14 Tryz.f14 cod := fnOk ty_ok mixed (callsOk_of _ rfl orcs_nil (ext_ok)) Tryz.func14 rfl rfl rfl
theorem ok : OrcOk Tryz.prog base.glob 14 orc := fnok.ok1 rfl spec
end LFinite
end Go.Proofs.YtfebndgmmekmgaaGreatDoor.W

/- gnomon/gnomonlaw17.TurnNiven -/
namespace Go.Proofs.YtfebndgmmekmgaaGreatDoor.W
open Go Go.Proofs.YtfebndgmmekmgaaGreatDoor.AI Go.Proofs.YtfebndgmmekmgaaGreatDoor.M
namespace LawNiven
noncomputable def E : Env := { ({ base with C := callsOf [(8, LAwake.orc), (14, LFinite.orc), (12, UExact.orc), (15, BValue.orc)] }) with nt := 108, own := [], keep := fun k => (tlook [] k).getD [], cut := tlook [(5, [0, 1]), (9, [0, 5, 6, 8]), (12, [0, 5, 6, 8, 10]), (14, [0, 5, 6, 8])] }
noncomputable def cod : Code := (Go.Proofs.Tryz.f6.body).getD .skip
theorem nok : namesOk E cod = true := by kernel_rfl
noncomputable def J5 (x0 : Int) (x1 : Int) : Option (List D) := ctO E Go.Proofs.Tryz.f6 cod 5 [(A.v (V.one (L.s (S.sc (Value.int IntKind.i64 x0)))), none), (A.v (V.one (L.s (S.sc (Value.int IntKind.u64 x1)))), none)]
noncomputable def J9 (x0 : Int) (x1 : Int) (b2 : Bool) (b3 : Bool) (xs4 : List Int) (x5 : Int) : Option (List D) := ctO E Go.Proofs.Tryz.f6 cod 9 [(A.v (V.one (L.s (S.sc (Value.int IntKind.i64 x0)))), none), (A.v (V.one (L.s (S.sc (Value.int IntKind.u64 x1)))), none), (A.v (V.one (L.s (S.sc (Value.bool b2)))), none), (A.v (V.one (L.ptr (3 : Nat) (0 : Nat))), some { e := (28 : Nat), cont := Cont.cells [S.sc (Value.bool b3), S.ints IntKind.u64 xs4, S.sc (Value.int IntKind.i64 x5)] })]
noncomputable def J12 (x0 : Int) (x1 : Int) (b2 : Bool) (b3 : Bool) (xs4 : List Int) (x5 : Int) (x6 : Int) : Option (List D) := ctO E Go.Proofs.Tryz.f6 cod 12 [(A.v (V.one (L.s (S.sc (Value.int IntKind.i64 x0)))), none), (A.v (V.one (L.s (S.sc (Value.int IntKind.u64 x1)))), none), (A.v (V.one (L.s (S.sc (Value.bool b2)))), none), (A.v (V.one (L.ptr (3 : Nat) (0 : Nat))), some { e := (28 : Nat), cont := Cont.cells [S.sc (Value.bool b3), S.ints IntKind.u64 xs4, S.sc (Value.int IntKind.i64 x5)] }), (A.v (V.one (L.s (S.sc (Value.int IntKind.i64 x6)))), none)]
noncomputable def J14 (x0 : Int) (x1 : Int) (b2 : Bool) (b3 : Bool) (xs4 : List Int) (x5 : Int) : Option (List D) := ctO E Go.Proofs.Tryz.f6 cod 14 [(A.v (V.one (L.s (S.sc (Value.int IntKind.i64 x0)))), none), (A.v (V.one (L.s (S.sc (Value.int IntKind.u64 x1)))), none), (A.v (V.one (L.s (S.sc (Value.bool b2)))), none), (A.v (V.one (L.ptr (3 : Nat) (0 : Nat))), some { e := (28 : Nat), cont := Cont.cells [S.sc (Value.bool b3), S.ints IntKind.u64 xs4, S.sc (Value.int IntKind.i64 x5)] })]
theorem start (a : Int) (b : Int) : evalFn E Go.Proofs.Tryz.f6 cod [D.s (S.sc (Value.int IntKind.i64 a)), D.s (S.sc (Value.int IntKind.u64 b))] = gif True (bcase (decide (a < (4 : Int))) (some [D.s (S.sc (Value.bool true))]) (bcase (decide ((6 : Int) < a)) (some [D.s (S.sc (Value.bool true))]) (gif ((0 : Int) ≤ b ∧ b < (18446744073709551616 : Int)) (vlet (BFinite.finB (64 : Int) b) fun y0 => bcase (!y0) (some [D.s (S.sc (Value.bool true))]) (LawNiven.J5 a b))))) := (evalFn_J rfl nok _).trans (by kernel_rfl)
theorem J5_eq (x0 : Int) (x1 : Int) : J5 x0 x1 = gif ((0 : Int) ≤ x1 ∧ x1 < (18446744073709551616 : Int)) (vlet (UExact.exactR (64 : Int) x0 x1).fst fun y1 => vlet (UExact.exactR (64 : Int) x0 x1).snd.fst fun y2 => vlet (UExact.exactR (64 : Int) x0 x1).snd.snd fun y3 => gif (((64 : Int) = (32 : Int) ∨ (64 : Int) = (64 : Int)) ∧ (0 : Int) ≤ x1 ∧ x1 < (18446744073709551616 : Int)) (vlet (isNeg (bif BTake.patB (64 : Int) x1 && BFinite.finB (64 : Int) x1 then nrmD (BValue.valZ (64 : Int) x1) (BValue.valE (64 : Int) x1) else ((0 : Int), (0 : Int))).fst) fun y4 => vlet (M6.dg (bif BTake.patB (64 : Int) x1 && BFinite.finB (64 : Int) x1 then nrmD (BValue.valZ (64 : Int) x1) (BValue.valE (64 : Int) x1) else ((0 : Int), (0 : Int))).fst.natAbs) fun y5 => vlet (bif BTake.patB (64 : Int) x1 && BFinite.finB (64 : Int) x1 then nrmD (BValue.valZ (64 : Int) x1) (BValue.valE (64 : Int) x1) else ((0 : Int), (0 : Int))).snd fun y6 => vlet (bif BTake.patB (64 : Int) x1 then bif BFinite.finB (64 : Int) x1 then (0 : Int) else (6 : Int) else (2 : Int)) fun y7 => bcase (y3 != (0 : Int)) (some [D.s (S.sc (Value.bool false))]) (bcase (y7 != (0 : Int)) (some [D.s (S.sc (Value.bool false))]) (LawNiven.J9 x0 y1 y2 y4 y5 y6)))) := (cutAt_J rfl nok 5 _).trans (by kernel_rfl)
theorem J9_eq (x0 : Int) (x1 : Int) (b2 : Bool) (b3 : Bool) (xs4 : List Int) (x5 : Int) : J9 x0 x1 b2 b3 xs4 x5 = bcase (x0 == (6 : Int)) (LawNiven.J12 x0 x1 b2 b3 xs4 x5 (-2 : Int)) (LawNiven.J12 x0 x1 b2 b3 xs4 x5 (-1 : Int)) := (cutAt_J rfl nok 9 _).trans (by kernel_rfl)
theorem J12_eq (x0 : Int) (x1 : Int) (b2 : Bool) (b3 : Bool) (xs4 : List Int) (x5 : Int) (x6 : Int) : J12 x0 x1 b2 b3 xs4 x5 x6 = bcase (b2 != decide (x6 ≤ x5)) (some [D.s (S.sc (Value.bool false))]) (bcase (!b2) (bcase (x1 != (0 : Int)) (some [D.s (S.sc (Value.bool false))]) (LawNiven.J14 x0 x1 b2 b3 xs4 x5)) (LawNiven.J14 x0 x1 b2 b3 xs4 x5)) := (cutAt_J rfl nok 12 _).trans (by kernel_rfl)
theorem J14_eq (x0 : Int) (x1 : Int) (b2 : Bool) (b3 : Bool) (xs4 : List Int) (x5 : Int) : J14 x0 x1 b2 b3 xs4 x5 = bcase (!b2) (some [D.s (S.sc (Value.bool true))])
  (bcase (x0 == (6 : Int)) (bcase (x5 == (-1 : Int)) (some [D.s (S.sc (Value.bool (x1.tmod (9223372036854775808 : Int) == (9218868437227405312 : Int))))]) (bcase (x0 == (6 : Int)) (bcase (decide ((0 : Int) ≤ x5)) (bcase (x1.tmod (9223372036854775808 : Int) == (0 : Int)) (bcase (x0 != (5 : Int)) (some [D.s (S.sc (Value.bool true))]) (some [D.s (S.sc (Value.bool (x1 == (0 : Int))))])) (some [D.s (S.sc (Value.bool false))])) (bcase (x0 == (4 : Int)) (bcase (decide ((0 : Int) ≤ x5)) (bcase (x1.tmod (9223372036854775808 : Int) == (0 : Int)) (bcase (x0 != (5 : Int)) (some [D.s (S.sc (Value.bool true))]) (some [D.s (S.sc (Value.bool (x1 == (0 : Int))))])) (some [D.s (S.sc (Value.bool false))])) (bcase (x0 == (5 : Int)) (bcase (x5 == (-1 : Int)) (bcase (x1.tmod (9223372036854775808 : Int) == (0 : Int)) (bcase (x0 != (5 : Int)) (some [D.s (S.sc (Value.bool true))]) (some [D.s (S.sc (Value.bool (x1 == (0 : Int))))])) (some [D.s (S.sc (Value.bool false))])) (some [D.s (S.sc (Value.bool (x1.tmod (9223372036854775808 : Int) == (4607182418800017408 : Int))))])) (some [D.s (S.sc (Value.bool (x1.tmod (9223372036854775808 : Int) == (4607182418800017408 : Int))))]))) (bcase (x0 == (5 : Int)) (bcase (x5 == (-1 : Int)) (bcase (x1.tmod (9223372036854775808 : Int) == (0 : Int)) (bcase (x0 != (5 : Int)) (some [D.s (S.sc (Value.bool true))]) (some [D.s (S.sc (Value.bool (x1 == (0 : Int))))])) (some [D.s (S.sc (Value.bool false))])) (some [D.s (S.sc (Value.bool (x1.tmod (9223372036854775808 : Int) == (4607182418800017408 : Int))))])) (some [D.s (S.sc (Value.bool (x1.tmod (9223372036854775808 : Int) == (4607182418800017408 : Int))))])))) (bcase (x0 == (4 : Int)) (bcase (decide ((0 : Int) ≤ x5)) (bcase (x1.tmod (9223372036854775808 : Int) == (0 : Int)) (bcase (x0 != (5 : Int)) (some [D.s (S.sc (Value.bool true))]) (some [D.s (S.sc (Value.bool (x1 == (0 : Int))))])) (some [D.s (S.sc (Value.bool false))])) (bcase (x0 == (5 : Int)) (bcase (x5 == (-1 : Int)) (bcase (x1.tmod (9223372036854775808 : Int) == (0 : Int)) (bcase (x0 != (5 : Int)) (some [D.s (S.sc (Value.bool true))]) (some [D.s (S.sc (Value.bool (x1 == (0 : Int))))])) (some [D.s (S.sc (Value.bool false))])) (some [D.s (S.sc (Value.bool (x1.tmod (9223372036854775808 : Int) == (4607182418800017408 : Int))))])) (some [D.s (S.sc (Value.bool (x1.tmod (9223372036854775808 : Int) == (4607182418800017408 : Int))))]))) (bcase (x0 == (5 : Int)) (bcase (x5 == (-1 : Int)) (bcase (x1.tmod (9223372036854775808 : Int) == (0 : Int)) (bcase (x0 != (5 : Int)) (some [D.s (S.sc (Value.bool true))]) (some [D.s (S.sc (Value.bool (x1 == (0 : Int))))])) (some [D.s (S.sc (Value.bool false))])) (some [D.s (S.sc (Value.bool (x1.tmod (9223372036854775808 : Int) == (4607182418800017408 : Int))))])) (some [D.s (S.sc (Value.bool (x1.tmod (9223372036854775808 : Int) == (4607182418800017408 : Int))))])))))
    (bcase (x0 == (6 : Int)) (bcase (decide ((0 : Int) ≤ x5)) (bcase (x1.tmod (9223372036854775808 : Int) == (0 : Int)) (bcase (x0 != (5 : Int)) (some [D.s (S.sc (Value.bool true))]) (some [D.s (S.sc (Value.bool (x1 == (0 : Int))))])) (some [D.s (S.sc (Value.bool false))])) (bcase (x0 == (4 : Int)) (bcase (decide ((0 : Int) ≤ x5)) (bcase (x1.tmod (9223372036854775808 : Int) == (0 : Int)) (bcase (x0 != (5 : Int)) (some [D.s (S.sc (Value.bool true))]) (some [D.s (S.sc (Value.bool (x1 == (0 : Int))))])) (some [D.s (S.sc (Value.bool false))])) (bcase (x0 == (5 : Int)) (bcase (x5 == (-1 : Int)) (bcase (x1.tmod (9223372036854775808 : Int) == (0 : Int)) (bcase (x0 != (5 : Int)) (some [D.s (S.sc (Value.bool true))]) (some [D.s (S.sc (Value.bool (x1 == (0 : Int))))])) (some [D.s (S.sc (Value.bool false))])) (some [D.s (S.sc (Value.bool (x1.tmod (9223372036854775808 : Int) == (4607182418800017408 : Int))))])) (some [D.s (S.sc (Value.bool (x1.tmod (9223372036854775808 : Int) == (4607182418800017408 : Int))))]))) (bcase (x0 == (5 : Int)) (bcase (x5 == (-1 : Int)) (bcase (x1.tmod (9223372036854775808 : Int) == (0 : Int)) (bcase (x0 != (5 : Int)) (some [D.s (S.sc (Value.bool true))]) (some [D.s (S.sc (Value.bool (x1 == (0 : Int))))])) (some [D.s (S.sc (Value.bool false))])) (some [D.s (S.sc (Value.bool (x1.tmod (9223372036854775808 : Int) == (4607182418800017408 : Int))))])) (some [D.s (S.sc (Value.bool (x1.tmod (9223372036854775808 : Int) == (4607182418800017408 : Int))))])))) (bcase (x0 == (4 : Int)) (bcase (decide ((0 : Int) ≤ x5)) (bcase (x1.tmod (9223372036854775808 : Int) == (0 : Int)) (bcase (x0 != (5 : Int)) (some [D.s (S.sc (Value.bool true))]) (some [D.s (S.sc (Value.bool (x1 == (0 : Int))))])) (some [D.s (S.sc (Value.bool false))])) (bcase (x0 == (5 : Int)) (bcase (x5 == (-1 : Int)) (bcase (x1.tmod (9223372036854775808 : Int) == (0 : Int)) (bcase (x0 != (5 : Int)) (some [D.s (S.sc (Value.bool true))]) (some [D.s (S.sc (Value.bool (x1 == (0 : Int))))])) (some [D.s (S.sc (Value.bool false))])) (some [D.s (S.sc (Value.bool (x1.tmod (9223372036854775808 : Int) == (4607182418800017408 : Int))))])) (some [D.s (S.sc (Value.bool (x1.tmod (9223372036854775808 : Int) == (4607182418800017408 : Int))))]))) (bcase (x0 == (5 : Int)) (bcase (x5 == (-1 : Int)) (bcase (x1.tmod (9223372036854775808 : Int) == (0 : Int)) (bcase (x0 != (5 : Int)) (some [D.s (S.sc (Value.bool true))]) (some [D.s (S.sc (Value.bool (x1 == (0 : Int))))])) (some [D.s (S.sc (Value.bool false))])) (some [D.s (S.sc (Value.bool (x1.tmod (9223372036854775808 : Int) == (4607182418800017408 : Int))))])) (some [D.s (S.sc (Value.bool (x1.tmod (9223372036854775808 : Int) == (4607182418800017408 : Int))))]))))) := (cutAt_J rfl nok 14 _).trans (by kernel_rfl)
-- stuck: 0
end LawNiven
namespace LawNiven
/-- What Exact answers of a finite pattern of binary64. -/
theorem exact_fin {fn b : Int} (hk : fn = 4 ∨ fn = 5 ∨ fn = 6) (hb : 0 ≤ b ∧ b < 18446744073709551616) (hf : BFinite.finB 64 b = true) :
    (UExact.exactR 64 fn b).2.2 = 0 ∧
    ((UExact.numF 64 b = (0, 0) ∧ (UExact.exactR 64 fn b).2.1 = true ∧ b % 9223372036854775808 = 0 ∧ (UExact.exactR 64 fn b).1 = if fn = 5 then 4607182418800017408 else b) ∨
     ((UExact.numF 64 b).1 ≠ 0 ∧ (UExact.exactR 64 fn b).2.1 = (UExact0.exV fn (UExact.numF 64 b)).2.2 ∧ (UExact.exactR 64 fn b).1 = if (UExact0.exV fn (UExact.numF 64 b)).2.2 = true then UPattern.patV 64 (UExact0.exV fn (UExact.numF 64 b)).1 (UExact0.exV fn (UExact.numF 64 b)).2.1 else 0)) := by
  have hkn : UKnown.knownB fn = true := by unfold UKnown.knownB; exact decide_eq_true hk
  have hfin : b % 9223372036854775808 < 9218868437227405312 := of_decide_eq_true hf
  have hq : BQuiet.fmtB 64 = true := rfl
  have hp : BTake.patB 64 b = true := rfl
  have hsg : BSign.signV (BShape.shp 64) = 9223372036854775808 := rfl
  have hhd : BHidden.hidV (BShape.shp 64) = 4503599627370496 := rfl
  have hin : BInf.infV (BShape.shp 64) = 9218868437227405312 := rfl
  unfold UExact.exactR
  rw [hq, hkn, hp, if_neg (by simp), if_neg (by simp), hsg]
  have hc : ¬ (BClass.classV (BShape.shp 64) (b % 9223372036854775808) = 4 ∨ BClass.classV (BShape.shp 64) (b % 9223372036854775808) = 3) := by
    unfold BClass.classV
    rw [hhd, hin]
    split
    · omega
    · split
      · omega
      · omega
  have hc0 : BClass.classV (BShape.shp 64) (b % 9223372036854775808) = 0 ↔ b % 9223372036854775808 = 0 := by
    unfold BClass.classV
    rw [hhd, hin]
    split
    · omega
    · split
      · omega
      · omega
  rw [if_neg hc]
  have hman : ∀ n : Int, 0 ≤ n → (BParts.manV (BShape.shp 64) n = 0 ↔ n = 0) := by
    intro n hn
    unfold BParts.manV
    rw [hhd]
    split <;> omega
  by_cases h0 : b % 9223372036854775808 = 0
  · rw [if_pos (hc0.2 h0)]
    refine ⟨rfl, .inl ⟨?_, rfl, h0, ?_⟩⟩
    · have hz : BValue.valZ 64 b = 0 := by
        unfold BValue.valZ
        rw [hsg, (hman _ (by omega)).2 h0]
        exact zs_zero.2 rfl
      unfold UExact.numF
      rw [hz, nrmD_zero]
    · split <;> rfl
  · rw [if_neg (fun h => h0 (hc0.1 h))]
    have hne : (UExact.numF 64 b).1 ≠ 0 := by
      intro h
      have hz : BValue.valZ 64 b = 0 := nrmD_one_zero.1 h
      unfold BValue.valZ at hz
      rw [hsg] at hz
      have := zs_zero.1 hz
      have hm := BValue.man_lt BShape.two64 (show 0 ≤ b % 9223372036854775808 by omega)
      rw [show ((64, 53, -1074, 9221120237041090561) : Int × Int × Int × Int) = BShape.shp 64 from rfl] at hm
      have := (hman (b % 9223372036854775808) (by omega)).1 (by omega)
      omega
    cases hv : (UExact0.exV fn (UExact.numF 64 b)).2.2 with
    | true => rw [if_pos rfl]; exact ⟨rfl, .inr ⟨hne, rfl, by rw [if_pos rfl]⟩⟩
    | false => rw [if_neg (by simp)]; exact ⟨rfl, .inr ⟨hne, rfl, by rw [if_neg (by simp)]⟩⟩
theorem pat_mod (s : Int) (n : Bool) (h : s = 0 ∨ s = 1 ∨ s = 2) : (UPattern.patV 64 s n).tmod 9223372036854775808 = if s = 2 then 9218868437227405312 else if s = 1 then 4607182418800017408 else 0 := by
  rcases h with rfl | rfl | rfl <;> cases n <;> rfl
noncomputable def sp (fn b : Int) : Prop × List D := (0 ≤ b ∧ b < 18446744073709551616, [.s (.sc (.bool true))])
theorem tail {fn w x : Int} {ok : Bool} (b3 : Bool) (xs : List Int) (hk : fn = 4 ∨ fn = 5 ∨ fn = 6) (hok : ok = decide ((if fn = 6 then -2 else -1) ≤ x))
    (hn : ok = false → w = 0) (hw : ok = true → w.tmod 9223372036854775808 = if fn = 6 then (if x = -1 then 9218868437227405312 else if 0 ≤ x then 0 else 4607182418800017408) else if fn = 4 then (if 0 ≤ x then 0 else 4607182418800017408) else (if x = -1 then 0 else 4607182418800017408))
    (h5 : fn = 5 → x = -1 → w = 0) : J9 fn w ok b3 xs x = some [.s (.sc (.bool true))] := by
  rw [J9_eq]
  have j14 : J14 fn w ok b3 xs x = some [.s (.sc (.bool true))] := by
    rw [J14_eq]
    cases ok with
    | false => rfl
    | true =>
      have hx : (if fn = 6 then -2 else -1) ≤ x := of_decide_eq_true hok.symm
      have hw := hw rfl
      rw [Bool.not_true, bF]
      rcases hk with rfl | rfl | rfl
      · have hx : -1 ≤ x := hx
        by_cases h0 : 0 ≤ x
        · have hw : w.tmod 9223372036854775808 = 0 := by rw [hw]; simp [h0]
          simp [bcase, hw, h0]
        · have hx1 : x = -1 := by omega
          have hw : w.tmod 9223372036854775808 = 4607182418800017408 := by rw [hw]; simp [h0]
          simp [bcase, hw, hx1]
      · have hx : -1 ≤ x := hx
        by_cases h1 : x = -1
        · have hw0 := h5 rfl h1
          simp [bcase, hw0, h1]
        · have hw : w.tmod 9223372036854775808 = 4607182418800017408 := by rw [hw]; simp [h1]
          simp [bcase, hw, beq_eq_false_iff_ne.2 h1]
      · have hx : -2 ≤ x := hx
        by_cases h1 : x = -1
        · have hw : w.tmod 9223372036854775808 = 9218868437227405312 := by rw [hw]; simp [h1]
          simp [bcase, hw, h1]
        · by_cases h0 : 0 ≤ x
          · have hw : w.tmod 9223372036854775808 = 0 := by rw [hw]; simp [h0, h1]
            simp [bcase, hw, h0, beq_eq_false_iff_ne.2 h1]
          · have hw : w.tmod 9223372036854775808 = 4607182418800017408 := by rw [hw]; simp [h0, h1]
            simp [bcase, hw, h0, beq_eq_false_iff_ne.2 h1]
  have j12 : J12 fn w ok b3 xs x (if fn = 6 then -2 else -1) = some [.s (.sc (.bool true))] := by
    rw [J12_eq, bB_neg (by rw [← hok]; simp), j14]
    cases ok with
    | true => rfl
    | false => rw [Bool.not_false, bT, bN_neg (hn rfl)]
  by_cases h6 : fn = 6
  · rw [bE_pos h6]; rwa [if_pos h6] at j12
  · rw [bE_neg h6]; rwa [if_neg h6] at j12
theorem spec (fn b : Int) (h : (sp fn b).1) : evalFn E Tryz.f6 cod [(pN .i64).put fn, (pN .u64).put b] = some (sp fn b).2 := by
  have h : 0 ≤ b ∧ b < 18446744073709551616 := h
  refine (start fn b).trans ((gP trivial).trans ?_)
  by_cases c1 : fn < 4
  · rw [bD_pos c1]; rfl
  · rw [bD_neg c1]
    by_cases c2 : 6 < fn
    · rw [bD_pos c2]; rfl
    · have hk : fn = 4 ∨ fn = 5 ∨ fn = 6 := by omega
      rw [bD_neg c2, gP h, vl]
      cases hf : BFinite.finB 64 b with
      | false => rfl
      | true =>
        have hp : BTake.patB 64 b = true := rfl
        have e1 : (bif BTake.patB 64 b && BFinite.finB 64 b then nrmD (BValue.valZ 64 b) (BValue.valE 64 b) else ((0 : Int), (0 : Int))) = UExact.numF 64 b := by rw [hp, hf]; rfl
        have e2 : (bif BTake.patB 64 b then bif BFinite.finB 64 b then (0 : Int) else 6 else 2) = 0 := by rw [hp, hf]; rfl
        obtain ⟨x1, x2⟩ := exact_fin hk h hf
        rw [Bool.not_true, bF, J5_eq, gP h, vl, vl, vl, gP ⟨.inr rfl, h⟩, e1, e2, vl_dy, vl, x1, bN_neg rfl, bN_neg rfl]
        have hodd := (UExact.numF_pin (.inr rfl) h.1 hf).1.2.2.2
        generalize UExact.numF 64 b = p at *
        refine tail _ _ hk ?_ ?_ ?_ ?_
        · rcases x2 with ⟨rfl, y2, _, _⟩ | ⟨_, y2, _⟩
          · rw [y2]; symm; exact decide_eq_true (by dsimp only; split <;> omega)
          · rw [y2]
            unfold UExact0.exV
            rcases hk with rfl | rfl | rfl
            · by_cases h0 : 0 ≤ p.2
              · simp [h0]; omega
              · by_cases h1 : p.2 = -1
                · simp [h1]
                · simp [h0, h1]; omega
            · by_cases h0 : 0 ≤ p.2
              · simp [h0]; omega
              · by_cases h1 : p.2 = -1
                · simp [h1]
                · simp [h0, h1]; omega
            · by_cases h0 : 0 ≤ p.2
              · simp [h0]; omega
              · by_cases h1 : p.2 = -1
                · simp [h1]
                · by_cases h2 : p.2 = -2
                  · simp [h2]
                  · simp [h0, h1, h2]; omega
        · intro hn
          rcases x2 with ⟨rfl, y2, _, _⟩ | ⟨_, y2, y3⟩
          · rw [y2] at hn; cases hn
          · rw [y3, if_neg (by rw [← y2, hn]; simp)]
        · intro hn
          rcases x2 with ⟨rfl, y2, y3, y4⟩ | ⟨_, y2, y3⟩
          · rw [y4]
            rcases hk with rfl | rfl | rfl
            · simp [Int.tmod_eq_emod_of_nonneg h.1, y3]
            · rfl
            · simp [Int.tmod_eq_emod_of_nonneg h.1, y3]
          · rw [y3, if_pos (by rw [← y2, hn]), pat_mod _ _ (UExact.ex_size fn p)]
            rw [y2] at hn
            unfold UExact0.exV at *
            rcases hk with rfl | rfl | rfl
            · by_cases h0 : 0 ≤ p.2
              · simp [h0]
              · by_cases h1 : p.2 = -1
                · simp [h1]
                · simp [h0, h1] at hn
            · by_cases h0 : 0 ≤ p.2
              · have : p.2 ≠ -1 := by omega
                simp [h0, this]
              · by_cases h1 : p.2 = -1
                · simp [h1]
                · simp [h0, h1] at hn
            · by_cases h0 : 0 ≤ p.2
              · have : p.2 ≠ -1 := by omega
                simp [h0, this]
              · by_cases h1 : p.2 = -1
                · simp [h1]
                · by_cases h2 : p.2 = -2
                  · simp [h2]
                  · simp [h0, h1, h2] at hn
        · intro h5 h1
          rcases x2 with ⟨rfl, y2, y3, y4⟩ | ⟨_, y2, y3⟩
          · simp at h1
          · rw [y3]
            unfold UExact0.exV
            subst h5
            simp [h1]
            rfl

noncomputable def orc : Orc := orc2 (pN .i64) (pN .u64) sp
theorem fnok : FnOk Tryz.prog E 6 Tryz.f6 cod := fnOk ty_ok mixed (callsOk_of _ rfl (orcs_cons LAwake.ok (orcs_cons LFinite.ok (orcs_cons UExact.ok (orcs_cons BValue.ok orcs_nil)))) (ext_ok)) Tryz.func6 rfl rfl rfl
theorem ok : OrcOk Tryz.prog base.glob 6 orc := fnok.ok2 rfl spec
end LawNiven
end Go.Proofs.YtfebndgmmekmgaaGreatDoor.W

/- What is handed in, as the abstract interpreter reads it; and a table that lies ready. -/
namespace Go.Proofs.YtfebndgmmekmgaaGreatDoor.AI
open Go Go.RowKit Go.ChangeShapes Go.WideShapes Go.ChangeAt

abbrev noX : Nat → Prop := fun _ => False
theorem cell_at {w : World} {a : Addr} {v : Value} (h : w.cell? a = some v) : a = ⟨a.block, a.off, none⟩ ∧ a.block < w.heap.size := by
  unfold World.cell? at h
  split at h
  · rename_i c t fr hb
    split at h
    · cases h
    · rename_i hs
      obtain ⟨b, o, s⟩ := a
      cases s with
      | some x => simp at hs
      | none => exact ⟨rfl, (Array.getElem?_eq_some_iff.1 hb).1⟩
  · cases h
theorem add_at {b o : Nat} (i : Nat) : (⟨b, o, none⟩ : Addr).add i = ⟨b, o + i, none⟩ := by
  unfold Addr.add
  split
  · rename_i h; subst h; rfl
  · rfl

section
variable {H : Type} {enc : TypeId × Value → H} {P : Program} {w : World} {held : Bool} {sp : Nat → Bool}
/-- A slice of whole numbers that is handed in. -/
theorem rep_ints {t e : TypeId} {k : IntKind} {fuel : Nat} {A : Option Addr} {len cap : Nat} {x : DataW H × List MemPlace} (ht : P.underlying t = some (.slice e)) (he : P.underlying e = some (.int k)) (hc : P.cellsOf e = 1)
    (h : DataW.trod enc P w 0 sp held fuel t [.slice A len cap] = some x) : ∃ ns : List Int, RepD noX w (.s (.ints k ns)) (.slice A len cap) ∧ ns.length ≤ 9223372036854775807 ∧ ∀ n ∈ ns, (Lit.int k n).wf = true := by
  rcases open_ints ht he hc h with ⟨hcs, _⟩ | ⟨a, l, c, zs, hcs, _, hl, hm, hz, _, hcell, hw⟩
  · simp at hcs
    obtain ⟨rfl, rfl, rfl⟩ := hcs
    exact ⟨[], ⟨none, 0, rfl, by simp, fun i n h => by simp at h⟩, by simp, by simp⟩
  · simp at hcs
    obtain ⟨rfl, rfl, rfl⟩ := hcs
    have hzl : len ≤ zs.length := by rw [hz]; split <;> omega
    have hlen : (zs.take len).length = len := by rw [List.length_take]; omega
    have hm2 : cap ≤ 9223372036854775807 := hm
    refine ⟨zs.take len, ⟨some a, cap, by rw [hlen], by rw [hlen]; exact hl, fun i n hn => ?_⟩, by omega, fun n hn => hw n (List.mem_of_mem_take hn)⟩
    have hi : i < len := by
      have := (List.getElem?_eq_some_iff.1 hn).1
      omega
    have h0 := hcell 0 (by omega)
    have ha : a.add 0 = a := by unfold Addr.add; rw [if_pos rfl]
    rw [ha] at h0
    obtain ⟨e1, e2⟩ := cell_at h0
    refine ⟨a.block, a.off, by rw [← e1], e2, id, ?_⟩
    have h1 := hcell i (by omega)
    rw [e1, add_at] at h1
    rw [h1]
    have : zs.getD i 0 = n := by
      rw [List.getElem?_take, if_pos hi] at hn
      rw [List.getD_eq_getElem?_getD, hn]
      rfl
    rw [this]

/-- Are a struct's fields whole numbers of these kinds, one cell each? -/
def fieldsB (P : Program) (fs : Array Field) (ks : List IntKind) : Bool :=
  Nat.beq fs.size ks.length && (List.range ks.length).all fun i => match fs[i]?, ks[i]? with
    | some f, some k => (match P.underlying f.type with | some (.int k') => decide (k' = k) | _ => false) && (Nat.beq (P.cellsOf f.type) 1 && Nat.beq f.offset i)
    | _, _ => false
def numOfV : Value → Int
  | .int _ n => n
  | _ => 0
def wfAll (ks : List IntKind) (ns : List Int) : Prop := ns.length = ks.length ∧ ∀ (i : Nat) k, ks[i]? = some k → (Lit.int k (ns.getD i 0)).wf = true
theorem struct_ints {t : TypeId} {fs : Array Field} {ks : List IntKind} {fuel : Nat} {cs : List Value} {x : DataW H × List MemPlace} (ht : P.underlying t = some (.struct fs)) (hk : fieldsB P fs ks = true) (hc : P.cellsOf t = ks.length)
    (h : DataW.trod enc P w 0 sp held fuel t cs = some x) : ∃ ns : List Int, wfAll ks ns ∧ cs.length = ks.length ∧ ∀ (i : Nat) k, ks[i]? = some k → cs[i]? = some (.int k (ns.getD i 0)) := by
  obtain ⟨xs, n, _, _, hl, hxl, hf⟩ := DataW.trod_struct ht h
  unfold fieldsB at hk
  rw [Bool.and_eq_true] at hk
  have hsz := Nat.eq_of_beq_eq_true hk.1
  have key : ∀ (i : Nat) k, ks[i]? = some k → ∃ m, cs[i]? = some (.int k m) ∧ (Lit.int k m).wf = true := by
    intro i k hi
    have hlt : i < ks.length := (List.getElem?_eq_some_iff.1 hi).1
    have h1 := List.all_eq_true.1 hk.2 i (List.mem_range.2 hlt)
    have hfi : fs[i]? = some fs[i] := Array.getElem?_eq_getElem (by omega)
    rw [hfi, hi] at h1
    simp only [Bool.and_eq_true] at h1
    obtain ⟨h2, h3, h4⟩ := h1
    have h3 := Nat.eq_of_beq_eq_true h3
    have h4 := Nat.eq_of_beq_eq_true h4
    have h5 := hf i _ hfi
    rw [h3, h4] at h5
    have hx : xs[i]? = some xs[i] := List.getElem?_eq_getElem (by omega)
    rw [hx] at h5
    cases hu : P.underlying fs[i].type with
    | none => rw [hu] at h2; cases h2
    | some d =>
      rw [hu] at h2
      cases d with
      | int k' =>
        have hkk : k' = k := of_decide_eq_true h2
        subst hkk
        obtain ⟨m, e1, _, e3⟩ := DataW.trod_int hu h5
        refine ⟨m, ?_, e3⟩
        have : ((cs.drop i).take 1)[0]? = some (.int k' m) := by rw [e1]; rfl
        rw [List.getElem?_take, if_pos (by omega), List.getElem?_drop] at this
        simpa using this
      | _ => cases h2
  refine ⟨cs.map numOfV, ⟨by rw [List.length_map, hl, hc], fun i k hi => ?_⟩, by rw [hl, hc], fun i k hi => ?_⟩
  · obtain ⟨m, e1, e2⟩ := key i k hi
    have : (cs.map numOfV).getD i 0 = m := by rw [List.getD_eq_getElem?_getD, List.getElem?_map, e1]; rfl
    rw [this]; exact e2
  · obtain ⟨m, e1, e2⟩ := key i k hi
    have : (cs.map numOfV).getD i 0 = m := by rw [List.getD_eq_getElem?_getD, List.getElem?_map, e1]; rfl
    rw [this]; exact e1

/-- The cells of such a struct. -/
def rowS (ks : List IntKind) (ns : List Int) : List S := (List.range ks.length).map fun i => S.sc (.int (ks.getD i .i64) (ns.getD i 0))
/-- A slice of such structs that is handed in. -/
theorem rep_rows {t e : TypeId} {fs : Array Field} {ks : List IntKind} {fuel : Nat} {A : Option Addr} {len cap : Nat} {x : DataW H × List MemPlace} (ht : P.underlying t = some (.slice e)) (he : P.underlying e = some (.struct fs)) (hk : fieldsB P fs ks = true) (hc : P.cellsOf e = ks.length) (hk0 : 0 < ks.length)
    (h : DataW.trod enc P w 0 sp held fuel t [.slice A len cap] = some x) : ∃ g : Nat → List Int, RepD noX w (.rows ks.length len fun i => rowS ks (g i)) (.slice A len cap) ∧ len ≤ 9223372036854775807 ∧ ∀ i, i < len → wfAll ks (g i) := by
  rcases DataW.trod_slice ht h with ⟨hcs, _⟩ | ⟨a, l, c, elems, rest, n, _, hcs, _, _, hl, hm, hel, hcell, _, _⟩
  · simp at hcs
    obtain ⟨rfl, rfl, rfl⟩ := hcs
    exact ⟨fun _ => [], ⟨none, 0, rfl, by simp, fun i hi => by omega⟩, by simp, fun i hi => by omega⟩
  · simp at hcs
    obtain ⟨rfl, rfl, rfl⟩ := hcs
    have one : ∀ i, i < len → ∃ ns : List Int, wfAll ks ns ∧ ∀ (j : Nat) k, ks[j]? = some k → w.cell? (a.add (i * ks.length) |>.add j) = some (.int k (ns.getD j 0)) := by
      intro i hi
      have h1 := hcell i hi
      rw [hc] at h1
      have hx : elems[i]? = some elems[i] := List.getElem?_eq_getElem (by omega)
      rw [hx] at h1
      obtain ⟨cs, h2, h3⟩ := Option.bind_eq_some_iff.1 h1
      obtain ⟨ns, h4, h5, h6⟩ := struct_ints he hk hc h3
      refine ⟨ns, h4, fun j k hj => ?_⟩
      have hlt : j < ks.length := (List.getElem?_eq_some_iff.1 hj).1
      rw [(World.cells?_some h2).2.2 j hlt, h6 j k hj]
    obtain ⟨g, hg⟩ : ∃ g : Nat → List Int, ∀ i, i < len → wfAll ks (g i) ∧ ∀ (j : Nat) k, ks[j]? = some k → w.cell? (a.add (i * ks.length) |>.add j) = some (.int k ((g i).getD j 0)) := by
      refine ⟨fun i => if hi : i < len then Classical.choose (one i hi) else [], fun i hi => ?_⟩
      simp only [dif_pos hi]
      exact Classical.choose_spec (one i hi)
    have hm2 : cap ≤ 9223372036854775807 := hm
    refine ⟨g, ⟨some a, cap, rfl, hl, fun i hi => ?_⟩, by omega, fun i hi => (hg i hi).1⟩
    refine ⟨by unfold rowS; simp, ?_⟩
    have hk1 : ks[0]? = some ks[0] := List.getElem?_eq_getElem hk0
    have h0 := (hg 0 (by omega)).2 0 _ hk1
    rw [Nat.zero_mul, show a.add 0 = a by unfold Addr.add; rw [if_pos rfl], show a.add 0 = a by unfold Addr.add; rw [if_pos rfl]] at h0
    obtain ⟨e1, e2⟩ := cell_at h0
    refine ⟨a.block, a.off, by rw [← e1], fun j s hs => ⟨e2, id, ?_⟩⟩
    unfold rowS at hs
    rw [List.getElem?_map] at hs
    obtain ⟨j', hj1, rfl⟩ := Option.map_eq_some_iff.1 hs
    have hjl : j < ks.length := by have := (List.getElem?_eq_some_iff.1 hj1).1; simpa using this
    have : j' = j := by rw [List.getElem?_range hjl] at hj1; exact (Option.some.inj hj1).symm
    subst this
    have hkj : ks[j']? = some ks[j'] := List.getElem?_eq_getElem hjl
    have h2 := (hg i hi).2 j' _ hkj
    rw [e1, add_at, add_at] at h2
    refine ⟨_, h2, ?_⟩
    have : ks.getD j' .i64 = ks[j'] := by rw [List.getD_eq_getElem?_getD, hkj]; rfl
    rw [this]
    exact ⟨rfl, rfl⟩

/-- A table of whole numbers that lies ready. -/
theorem glob_ints {name : String} {g : Nat} {t e : TypeId} {k : IntKind} {n fuel : Nat} {ns : List Int} {cs : Array Value} {p : List MemPlace} (hg : P.globalNamed name = some g) (hv : w.var? P name = some cs) (ht : P.underlying t = some (.array n e)) (he : P.underlying e = some (.int k)) (hc : P.cellsOf e = 1) (hn : ns.length = n) (hn0 : 0 < n)
    (hd : DataW.trod enc P w 0 sp held fuel t cs.toList = some (.agg (ns.map fun m => .lit (.int k m)), p)) : g < w.heap.size ∧ ¬ noX g ∧ CellsAt noX w g 0 (intCells k ns) := by
  obtain ⟨xs, m1, _, hx, _, hxl, hel⟩ := DataW.trod_array ht hd
  simp only [Prod.mk.injEq, DataW.agg.injEq] at hx
  have cell : ∀ i v, ns[i]? = some v → w.cell? ⟨g, i, none⟩ = some (.int k v) := by
    intro i v hi
    have hlt : i < n := by have := (List.getElem?_eq_some_iff.1 hi).1; omega
    have h1 := hel i hlt
    have hxi : xs[i]? = some xs[i] := List.getElem?_eq_getElem (by omega)
    rw [hxi, hc, Nat.mul_one] at h1
    obtain ⟨m, e1, e2, _⟩ := DataW.trod_int he h1
    have h2 := congrArg (fun l => l[i]?) hx.1
    simp only [List.getElem?_map, hi, hxi, e2, Option.map_some] at h2
    have hmv : v = m := by simpa using h2
    subst hmv
    have h3 : ((cs.toList.drop i).take 1)[0]? = some (.int k v) := by rw [e1]; rfl
    rw [List.getElem?_take, if_pos (by omega), List.getElem?_drop] at h3
    have h4 := World.var?_cell hg hv i
    rw [h4]
    simpa using h3
  have h0 : ns[0]? = some ns[0] := List.getElem?_eq_getElem (by omega)
  have hb := (cell_at (cell 0 _ h0)).2
  refine ⟨hb, id, fun i s hs => ⟨hb, id, ?_⟩⟩
  unfold intCells at hs
  rw [List.getElem?_map] at hs
  obtain ⟨v, hv1, rfl⟩ := Option.map_eq_some_iff.1 hs
  refine ⟨_, by rw [Nat.zero_add]; exact cell i v hv1, rfl, rfl⟩
end
theorem wf64 {n : Int} (h : (Lit.int .u64 n).wf = true) : 0 ≤ n ∧ n < 18446744073709551616 := by
  have h2 : IntKind.u64.min ≤ n ∧ n ≤ IntKind.u64.max := by simpa [Lit.wf] using h
  have e1 : IntKind.u64.min = 0 := rfl
  have e2 : IntKind.u64.max = 18446744073709551615 := rfl
  omega
theorem wfi {n : Int} (h : (Lit.int .i64 n).wf = true) : -9223372036854775808 ≤ n ∧ n < 9223372036854775808 := by
  have h2 : IntKind.i64.min ≤ n ∧ n ≤ IntKind.i64.max := by simpa [Lit.wf] using h
  have e1 : IntKind.i64.min = -9223372036854775808 := rfl
  have e2 : IntKind.i64.max = 9223372036854775807 := rfl
  omega
/-- A call that answers true. -/
theorem calls_true {P : Program} {G : Nat → Option (IntKind × List Int)} {f : FuncId} {ds : List D} (hc : Contract P G f ds [.s (.sc (.bool true))]) {w : World} {vs : List Value} (hG : GlobOk G noX w) (hl : ds.length = vs.length)
    (hr : ∀ (i : Nat) (d : D) (v : Value), ds[i]? = some d → vs[i]? = some v → RepD noX w d v) : Calls P f vs.toArray w fun e w' => e = .returned (.bool true) ∧ Below w.heap.size w w' := by
  refine (hc noX w vs (fun _ h => h.elim) hG hl hr).mono ?_
  rintro e w' ⟨vs', rfl, hb, g, hl, _, hr⟩
  match vs', hl with
  | [v], _ =>
    have := hr 0 _ v rfl rfl
    obtain ⟨rfl, _⟩ := this
    exact ⟨rfl, hb⟩
end Go.Proofs.YtfebndgmmekmgaaGreatDoor.AI

