/- Printed by a program of this session (wip/gprint.py) over the translation. Not trusted: Lean checks it. -/
import Derived.Test.YtffmflmpiekcfabPAllx0
import Derived.Test.YtffmflmpiekcfabPAllx12
import Derived.Test.YtffmflmpiekcfabPAllx13
import Derived.Test.YtffmflmpiekcfabPAllx15
import Derived.Test.YtffmflmpiekcfabPAllx17
import Derived.Test.YtffmflmpiekcfabPAllx18
namespace Go.Proofs.Ytffmflmpiekcfab.PAll
open Go.RowKit Go.Proofs.YtffmflmpiekcfabW.PrintWords Go.Proofs.YtffmflmpiekcfabW.PrintLast Go.Proofs.YtffmflmpiekcfabW.PrintMore
attribute [local go_sem] max2_int min2_int max_two min_two max_three min_three max_four min_four   -- for this text's walks alone
set_option linter.unusedVariables false
set_option linter.unusedSimpArgs false

/-! ### formelaw20_FloatsHigh: function 5 -/
mutual
def formelaw20_FloatsHigh.l0 : Nat → Int → Bool → List (S43) → Int → Int → Int → Int → Int → Option (Bool)
  | 0, _, _, _, _, _, _, _, _ => none
  | k + 1, x1, x7, x8, x9, x287000, x287001, x287002, x287003 => if x9 < (x8.length : Int) then (if 0 ≤ x9 then ((some (x8.set (x9 : Int).toNat (⟨(rd_T43 x8 x9).f0, Int.tmod ((rd_T43 x8 x9).f1) 300, (rd_T43 x8 x9).f2, (rd_T43 x8 x9).f3⟩ : S43) : List (S43))).bind fun y296 => (formelaw20_FloatsHigh.l0 k x1 x7 (y296.set (x9 : Int).toNat (⟨(rd_T43 y296 x9).f0, (rd_T43 y296 x9).f1, (rd_T43 y296 x9).f2, Int.tmod ((rd_T43 x8 x9).f3) 100⟩ : S43)) (wrap64 (x9 + 1)) x287000 x287001 x287002 x287003)) else (none)) else ((formelaw20_placed.f k x8 (wrap64 (x1)) false).bind fun bt298 => ((floats_Place.f bt298.1 (wrap64 (x1)) (wrap64 (1 + (Int.tmod (wrap64 (x287000)) 2))) (wrap64 (Int.tmod x287001 300)) (wrap64 (x287002)) (wrap64 (Int.tmod x287003 100))).bind fun bt302 => (if bt298.2 = true then (if bt302.2 = 0 then (formelaw20_FloatsHigh.j1 k x7 (wrap64 (x1)) bt298.1 (wrap64 (Int.tmod x287001 300)) (wrap64 (x287002)) (wrap64 (Int.tmod x287003 100)) bt302.1 ((bt302.1.length : Int) != (wrap64 ((bt298.1.length : Int) + 1)))) else (formelaw20_FloatsHigh.j1 k x7 (wrap64 (x1)) bt298.1 (wrap64 (Int.tmod x287001 300)) (wrap64 (x287002)) (wrap64 (Int.tmod x287003 100)) bt302.1 true)) else (formelaw20_FloatsHigh.j1 k x7 (wrap64 (x1)) bt298.1 (wrap64 (Int.tmod x287001 300)) (wrap64 (x287002)) (wrap64 (Int.tmod x287003 100)) bt302.1 true))))
def formelaw20_FloatsHigh.j1 : Nat → Bool → Int → List (S41) → Int → Int → Int → List (S41) → Bool → Option (Bool)
  | 0, _, _, _, _, _, _, _, _ => none
  | k + 1, x7, x10, x11, x13, x14, x15, x16, x102 => if x102 = true then (some false) else (if 0 ≤ (x11.length : Int) then (if (x11.length : Int) < (x16.length : Int) then (formelaw20_FloatsHigh.l1 k x7 x10 x11 x14 x15 x16 x13 0 ((rd_T41 x16 (x11.length : Int)).f0) ((rd_T41 x16 (x11.length : Int)).f1) ((rd_T41 x16 (x11.length : Int)).f2) ((rd_T41 x16 (x11.length : Int)).f3) ((rd_T41 x16 (x11.length : Int)).f4)) else (none)) else (none))
def formelaw20_FloatsHigh.l1 : Nat → Bool → Int → List (S41) → Int → Int → List (S41) → Int → Int → Int → Int → Int → Int → Int → Option (Bool)
  | 0, _, _, _, _, _, _, _, _, _, _, _, _, _ => none
  | k + 1, x7, x10, x11, x14, x15, x16, x19, x20, x308000, x308001, x308002, x308003, x308004 => if x20 < (x11.length : Int) then (if 0 ≤ x20 then (formelaw20_FloatsHigh.l1 k x7 x10 x11 x14 x15 x16 (mx x19 ((rd_T41 x11 x20).f2)) (wrap64 (x20 + 1)) x308000 x308001 x308002 x308003 x308004) else (none)) else (if x308002 < x19 then (formelaw20_FloatsHigh.j3 k x7 x10 x11 x14 x15 x19 true x308000 x308001 x308002 x308003 x308004) else (if x308002 > 5000 then (formelaw20_FloatsHigh.j3 k x7 x10 x11 x14 x15 x19 true x308000 x308001 x308002 x308003 x308004) else (if 0 ≤ (x11.length : Int) then (if (x11.length : Int) ≤ (x16.length : Int) then ((formeref20_Same.f k x11 (x16.take ((x11.length : Int) : Int).toNat)).bind fun t313 => (if t313 = true then ((formeref20_Free.f k x11 x10 x308002 x14 x15).bind fun t314 => (formelaw20_FloatsHigh.j3 k x7 x10 x11 x14 x15 x19 (!t314) x308000 x308001 x308002 x308003 x308004)) else (formelaw20_FloatsHigh.j3 k x7 x10 x11 x14 x15 x19 true x308000 x308001 x308002 x308003 x308004))) else (none)) else (none))))
def formelaw20_FloatsHigh.j3 : Nat → Bool → Int → List (S41) → Int → Int → Int → Bool → Int → Int → Int → Int → Int → Option (Bool)
  | 0, _, _, _, _, _, _, _, _, _, _, _, _ => none
  | k + 1, x7, x10, x11, x14, x15, x19, x149, x308000, x308001, x308002, x308003, x308004 => if x149 = true then (some false) else (formelaw20_FloatsHigh.l2 k x7 x10 x11 x14 x15 x19 x308000 x308001 x308002 x308003 x308004)
def formelaw20_FloatsHigh.l2 : Nat → Bool → Int → List (S41) → Int → Int → Int → Int → Int → Int → Int → Int → Option (Bool)
  | 0, _, _, _, _, _, _, _, _, _, _, _ => none
  | k + 1, x7, x10, x11, x14, x15, x21, x308000, x308001, x308002, x308003, x308004 => if x21 < x308002 then ((formeref20_Free.f k x11 x10 x21 x14 x15).bind fun t315 => (if t315 = true then (some false) else (formelaw20_FloatsHigh.l2 k x7 x10 x11 x14 x15 (wrap64 (x21 + 1)) x308000 x308001 x308002 x308003 x308004))) else (some x7)
end
def formelaw20_FloatsHigh.f (k : Nat) (l0 : List (S43)) (a1 : Int) (a2_0 : Int) (a2_1 : Int) (a2_2 : Int) (a2_3 : Int) : Option (Bool) := (formelaw20_head.f k).bind fun t287 => (if (l0.length : Int) > 20 then (some t287) else ((some (([] : List (S43)) : List (S43))).bind fun y288 => (if y288.length + l0.length < 17592186044416 then (formelaw20_FloatsHigh.l0 k a1 t287 (y288 ++ l0) 0 a2_0 a2_1 a2_2 a2_3) else (none))))
theorem formelaw20_FloatsHigh.mono_l : ∀ k, (∀ y0 y1 y2 y3 y4 y5 y6 y7, LeO (formelaw20_FloatsHigh.l0 k y0 y1 y2 y3 y4 y5 y6 y7) (formelaw20_FloatsHigh.l0 (k + 1) y0 y1 y2 y3 y4 y5 y6 y7)) ∧ (∀ y0 y1 y2 y3 y4 y5 y6 y7, LeO (formelaw20_FloatsHigh.j1 k y0 y1 y2 y3 y4 y5 y6 y7) (formelaw20_FloatsHigh.j1 (k + 1) y0 y1 y2 y3 y4 y5 y6 y7)) ∧ (∀ y0 y1 y2 y3 y4 y5 y6 y7 y8 y9 y10 y11 y12, LeO (formelaw20_FloatsHigh.l1 k y0 y1 y2 y3 y4 y5 y6 y7 y8 y9 y10 y11 y12) (formelaw20_FloatsHigh.l1 (k + 1) y0 y1 y2 y3 y4 y5 y6 y7 y8 y9 y10 y11 y12)) ∧ (∀ y0 y1 y2 y3 y4 y5 y6 y7 y8 y9 y10 y11, LeO (formelaw20_FloatsHigh.j3 k y0 y1 y2 y3 y4 y5 y6 y7 y8 y9 y10 y11) (formelaw20_FloatsHigh.j3 (k + 1) y0 y1 y2 y3 y4 y5 y6 y7 y8 y9 y10 y11)) ∧ (∀ y0 y1 y2 y3 y4 y5 y6 y7 y8 y9 y10, LeO (formelaw20_FloatsHigh.l2 k y0 y1 y2 y3 y4 y5 y6 y7 y8 y9 y10) (formelaw20_FloatsHigh.l2 (k + 1) y0 y1 y2 y3 y4 y5 y6 y7 y8 y9 y10))
  | 0 => ⟨fun _ _ _ _ _ _ _ _ r h => by simp [formelaw20_FloatsHigh.l0] at h, fun _ _ _ _ _ _ _ _ r h => by simp [formelaw20_FloatsHigh.j1] at h, fun _ _ _ _ _ _ _ _ _ _ _ _ _ r h => by simp [formelaw20_FloatsHigh.l1] at h, fun _ _ _ _ _ _ _ _ _ _ _ _ r h => by simp [formelaw20_FloatsHigh.j3] at h, fun _ _ _ _ _ _ _ _ _ _ _ r h => by simp [formelaw20_FloatsHigh.l2] at h⟩
  | k + 1 => by
    obtain ⟨ih0, ih1, ih2, ih3, ih4⟩ := formelaw20_FloatsHigh.mono_l k
    refine ⟨?_, ?_, ?_, ?_, ?_⟩
    · intro y0 y1 y2 y3 y4 y5 y6 y7
      unfold formelaw20_FloatsHigh.l0
      repeat' first
      | (with_reducible exact ih0 _ _ _ _ _ _ _ _)
      | (with_reducible exact ih1 _ _ _ _ _ _ _ _)
      | (with_reducible exact ih2 _ _ _ _ _ _ _ _ _ _ _ _ _)
      | (with_reducible exact ih3 _ _ _ _ _ _ _ _ _ _ _ _)
      | (with_reducible exact ih4 _ _ _ _ _ _ _ _ _ _ _)
      | (with_reducible exact formelaw20_head.mono _)
      | (with_reducible exact formelaw20_placed.mono _ _ _ _)
      | (with_reducible exact formeref20_Free.mono _ _ _ _ _ _)
      | (with_reducible exact formeref20_Same.mono _ _ _)
      | (with_reducible exact LeO.refl _)
      | (with_reducible exact LeO.none _)
      | (with_reducible refine LeO.ite ?_ ?_)
      | (with_reducible refine LeO.bind ?_ (fun _ => ?_))
      | exact ih0 _ _ _ _ _ _ _ _
      | exact ih1 _ _ _ _ _ _ _ _
      | exact ih2 _ _ _ _ _ _ _ _ _ _ _ _ _
      | exact ih3 _ _ _ _ _ _ _ _ _ _ _ _
      | exact ih4 _ _ _ _ _ _ _ _ _ _ _
      | exact formelaw20_head.mono _
      | exact formelaw20_placed.mono _ _ _ _
      | exact formeref20_Free.mono _ _ _ _ _ _
      | exact formeref20_Same.mono _ _ _
      | exact LeO.none _
      | refine LeO.ite ?_ ?_
      | refine LeO.bind ?_ (fun _ => ?_)
    · intro y0 y1 y2 y3 y4 y5 y6 y7
      unfold formelaw20_FloatsHigh.j1
      repeat' first
      | (with_reducible exact ih0 _ _ _ _ _ _ _ _)
      | (with_reducible exact ih1 _ _ _ _ _ _ _ _)
      | (with_reducible exact ih2 _ _ _ _ _ _ _ _ _ _ _ _ _)
      | (with_reducible exact ih3 _ _ _ _ _ _ _ _ _ _ _ _)
      | (with_reducible exact ih4 _ _ _ _ _ _ _ _ _ _ _)
      | (with_reducible exact formelaw20_head.mono _)
      | (with_reducible exact formelaw20_placed.mono _ _ _ _)
      | (with_reducible exact formeref20_Free.mono _ _ _ _ _ _)
      | (with_reducible exact formeref20_Same.mono _ _ _)
      | (with_reducible exact LeO.refl _)
      | (with_reducible exact LeO.none _)
      | (with_reducible refine LeO.ite ?_ ?_)
      | (with_reducible refine LeO.bind ?_ (fun _ => ?_))
      | exact ih0 _ _ _ _ _ _ _ _
      | exact ih1 _ _ _ _ _ _ _ _
      | exact ih2 _ _ _ _ _ _ _ _ _ _ _ _ _
      | exact ih3 _ _ _ _ _ _ _ _ _ _ _ _
      | exact ih4 _ _ _ _ _ _ _ _ _ _ _
      | exact formelaw20_head.mono _
      | exact formelaw20_placed.mono _ _ _ _
      | exact formeref20_Free.mono _ _ _ _ _ _
      | exact formeref20_Same.mono _ _ _
      | exact LeO.none _
      | refine LeO.ite ?_ ?_
      | refine LeO.bind ?_ (fun _ => ?_)
    · intro y0 y1 y2 y3 y4 y5 y6 y7 y8 y9 y10 y11 y12
      unfold formelaw20_FloatsHigh.l1
      repeat' first
      | (with_reducible exact ih0 _ _ _ _ _ _ _ _)
      | (with_reducible exact ih1 _ _ _ _ _ _ _ _)
      | (with_reducible exact ih2 _ _ _ _ _ _ _ _ _ _ _ _ _)
      | (with_reducible exact ih3 _ _ _ _ _ _ _ _ _ _ _ _)
      | (with_reducible exact ih4 _ _ _ _ _ _ _ _ _ _ _)
      | (with_reducible exact formelaw20_head.mono _)
      | (with_reducible exact formelaw20_placed.mono _ _ _ _)
      | (with_reducible exact formeref20_Free.mono _ _ _ _ _ _)
      | (with_reducible exact formeref20_Same.mono _ _ _)
      | (with_reducible exact LeO.refl _)
      | (with_reducible exact LeO.none _)
      | (with_reducible refine LeO.ite ?_ ?_)
      | (with_reducible refine LeO.bind ?_ (fun _ => ?_))
      | exact ih0 _ _ _ _ _ _ _ _
      | exact ih1 _ _ _ _ _ _ _ _
      | exact ih2 _ _ _ _ _ _ _ _ _ _ _ _ _
      | exact ih3 _ _ _ _ _ _ _ _ _ _ _ _
      | exact ih4 _ _ _ _ _ _ _ _ _ _ _
      | exact formelaw20_head.mono _
      | exact formelaw20_placed.mono _ _ _ _
      | exact formeref20_Free.mono _ _ _ _ _ _
      | exact formeref20_Same.mono _ _ _
      | exact LeO.none _
      | refine LeO.ite ?_ ?_
      | refine LeO.bind ?_ (fun _ => ?_)
    · intro y0 y1 y2 y3 y4 y5 y6 y7 y8 y9 y10 y11
      unfold formelaw20_FloatsHigh.j3
      repeat' first
      | (with_reducible exact ih0 _ _ _ _ _ _ _ _)
      | (with_reducible exact ih1 _ _ _ _ _ _ _ _)
      | (with_reducible exact ih2 _ _ _ _ _ _ _ _ _ _ _ _ _)
      | (with_reducible exact ih3 _ _ _ _ _ _ _ _ _ _ _ _)
      | (with_reducible exact ih4 _ _ _ _ _ _ _ _ _ _ _)
      | (with_reducible exact formelaw20_head.mono _)
      | (with_reducible exact formelaw20_placed.mono _ _ _ _)
      | (with_reducible exact formeref20_Free.mono _ _ _ _ _ _)
      | (with_reducible exact formeref20_Same.mono _ _ _)
      | (with_reducible exact LeO.refl _)
      | (with_reducible exact LeO.none _)
      | (with_reducible refine LeO.ite ?_ ?_)
      | (with_reducible refine LeO.bind ?_ (fun _ => ?_))
      | exact ih0 _ _ _ _ _ _ _ _
      | exact ih1 _ _ _ _ _ _ _ _
      | exact ih2 _ _ _ _ _ _ _ _ _ _ _ _ _
      | exact ih3 _ _ _ _ _ _ _ _ _ _ _ _
      | exact ih4 _ _ _ _ _ _ _ _ _ _ _
      | exact formelaw20_head.mono _
      | exact formelaw20_placed.mono _ _ _ _
      | exact formeref20_Free.mono _ _ _ _ _ _
      | exact formeref20_Same.mono _ _ _
      | exact LeO.none _
      | refine LeO.ite ?_ ?_
      | refine LeO.bind ?_ (fun _ => ?_)
    · intro y0 y1 y2 y3 y4 y5 y6 y7 y8 y9 y10
      unfold formelaw20_FloatsHigh.l2
      repeat' first
      | (with_reducible exact ih0 _ _ _ _ _ _ _ _)
      | (with_reducible exact ih1 _ _ _ _ _ _ _ _)
      | (with_reducible exact ih2 _ _ _ _ _ _ _ _ _ _ _ _ _)
      | (with_reducible exact ih3 _ _ _ _ _ _ _ _ _ _ _ _)
      | (with_reducible exact ih4 _ _ _ _ _ _ _ _ _ _ _)
      | (with_reducible exact formelaw20_head.mono _)
      | (with_reducible exact formelaw20_placed.mono _ _ _ _)
      | (with_reducible exact formeref20_Free.mono _ _ _ _ _ _)
      | (with_reducible exact formeref20_Same.mono _ _ _)
      | (with_reducible exact LeO.refl _)
      | (with_reducible exact LeO.none _)
      | (with_reducible refine LeO.ite ?_ ?_)
      | (with_reducible refine LeO.bind ?_ (fun _ => ?_))
      | exact ih0 _ _ _ _ _ _ _ _
      | exact ih1 _ _ _ _ _ _ _ _
      | exact ih2 _ _ _ _ _ _ _ _ _ _ _ _ _
      | exact ih3 _ _ _ _ _ _ _ _ _ _ _ _
      | exact ih4 _ _ _ _ _ _ _ _ _ _ _
      | exact formelaw20_head.mono _
      | exact formelaw20_placed.mono _ _ _ _
      | exact formeref20_Free.mono _ _ _ _ _ _
      | exact formeref20_Same.mono _ _ _
      | exact LeO.none _
      | refine LeO.ite ?_ ?_
      | refine LeO.bind ?_ (fun _ => ?_)
theorem formelaw20_FloatsHigh.mono : ∀ a0 a1 a2 a3 a4 a5 k, LeO (formelaw20_FloatsHigh.f k a0 a1 a2 a3 a4 a5) (formelaw20_FloatsHigh.f (k + 1) a0 a1 a2 a3 a4 a5) := by
  intro a0 a1 a2 a3 a4 a5 k
  obtain ⟨ih0, ih1, ih2, ih3, ih4⟩ := formelaw20_FloatsHigh.mono_l k
  unfold formelaw20_FloatsHigh.f
  repeat' first
      | (with_reducible exact ih0 _ _ _ _ _ _ _ _)
      | (with_reducible exact ih1 _ _ _ _ _ _ _ _)
      | (with_reducible exact ih2 _ _ _ _ _ _ _ _ _ _ _ _ _)
      | (with_reducible exact ih3 _ _ _ _ _ _ _ _ _ _ _ _)
      | (with_reducible exact ih4 _ _ _ _ _ _ _ _ _ _ _)
      | (with_reducible exact formelaw20_head.mono _)
      | (with_reducible exact formelaw20_placed.mono _ _ _ _)
      | (with_reducible exact formeref20_Free.mono _ _ _ _ _ _)
      | (with_reducible exact formeref20_Same.mono _ _ _)
      | (with_reducible exact LeO.refl _)
      | (with_reducible exact LeO.none _)
      | (with_reducible refine LeO.ite ?_ ?_)
      | (with_reducible refine LeO.bind ?_ (fun _ => ?_))
      | exact ih0 _ _ _ _ _ _ _ _
      | exact ih1 _ _ _ _ _ _ _ _
      | exact ih2 _ _ _ _ _ _ _ _ _ _ _ _ _
      | exact ih3 _ _ _ _ _ _ _ _ _ _ _ _
      | exact ih4 _ _ _ _ _ _ _ _ _ _ _
      | exact formelaw20_head.mono _
      | exact formelaw20_placed.mono _ _ _ _
      | exact formeref20_Free.mono _ _ _ _ _ _
      | exact formeref20_Same.mono _ _ _
      | exact LeO.none _
      | refine LeO.ite ?_ ?_
      | refine LeO.bind ?_ (fun _ => ?_)
def formelaw20_FloatsHigh.T8 : Bool × List (List Nat × List Nat) := (true, [([], []), ([], []), ([], []), ([], []), ([], []), ([], []), ([4, 5], [4, 5]), ([6], [6]), ([7], [7]), ([8], [8]), ([], []), ([], []), ([10, 11], [10, 11]), ([12], [12]), ([13], [13]), ([14], [14]), ([0, 1, 0, 1, 4, 5, 6, 7, 8, 9, 14], [0, 1]), ([16, 0, 1, 4, 5, 6, 7, 8, 9, 14], [16]), ([17, 9, 0, 1, 4, 5, 6, 7, 8, 9, 14], [9, 17]), ([2, 3, 0, 1, 2, 3, 4, 5, 6, 7, 8, 9, 10, 11, 12, 13, 14, 15, 16, 17, 18], [2, 3]), ([19, 0, 1, 2, 3, 4, 5, 6, 7, 8, 9, 10, 11, 12, 13, 14, 15, 16, 17, 18], [19]), ([20, 15, 18, 0, 1, 2, 3, 4, 5, 6, 7, 8, 9, 10, 11, 12, 13, 14, 15, 16, 17, 18], [15, 20])])
def formelaw20_FloatsHigh.B8 : List Nat := [0, 0, 0, 0, 0, 0, 48, 112, 240, 496, 0, 0, 3072, 7168, 15360, 31744, 32755, 98291, 229363, 524287, 1048575, 2097151]
theorem formelaw20_FloatsHigh.tab8 : rtab .any (opsOf Try.f5 8) = formelaw20_FloatsHigh.T8 := by kernel_rfl
theorem formelaw20_FloatsHigh.bits8 : waitsOk formelaw20_FloatsHigh.T8.2 formelaw20_FloatsHigh.B8 = true := by kernel_rfl
def formelaw20_FloatsHigh.T11 : Bool × List (List Nat × List Nat) := (true, [([], []), ([0], [0]), ([1], [1]), ([2], [2]), ([], []), ([4], [4]), ([5], [5]), ([], []), ([7], [7]), ([8], [8]), ([9], [9]), ([3, 0, 1, 2, 3], [3]), ([6, 11, 0, 1, 2, 3, 4, 5, 6, 11], [6]), ([10, 12, 0, 1, 2, 3, 4, 5, 6, 7, 8, 9, 10, 11, 12], [10])])
def formelaw20_FloatsHigh.B11 : List Nat := [0, 1, 3, 7, 0, 16, 48, 0, 128, 384, 896, 15, 2175, 8191]
theorem formelaw20_FloatsHigh.tab11 : rtab .any (opsOf Try.f5 11) = formelaw20_FloatsHigh.T11 := by kernel_rfl
theorem formelaw20_FloatsHigh.bits11 : waitsOk formelaw20_FloatsHigh.T11.2 formelaw20_FloatsHigh.B11 = true := by kernel_rfl
set_option maxHeartbeats 8000000 in
set_option maxRecDepth 100000 in
theorem formelaw20_FloatsHigh.calls (k : Nat) (A0 : Option Addr) (c0 : Nat) (l0 : List (S43)) (a1 : Int) (a2_0 : Int) (a2_1 : Int) (a2_2 : Int) (a2_3 : Int) (r : Bool) (w : World) (hr0 : Kd.C k43 w A0 l0.length l0) (hc0 : l0.length ≤ c0) (h : formelaw20_FloatsHigh.f k l0 a1 a2_0 a2_1 a2_2 a2_3 = some r) :
    Calls Try.prog 5 #[.slice A0 l0.length c0, .int .u16 a1, .agg #[.int .u8 a2_0, .int .u16 a2_1, .int .u16 a2_2, .int .u16 a2_3]] w fun e w' => e = .returned (.bool r) ∧ Below w.heap.size w w' := by
  have hu43 := Try.underlying43
  have hu41 := Try.underlying41
  have HR0 := Aside0.mk hr0
  have HC0 := Aside0.mk hc0
  clear hr0 hc0
  have HB := Aside0.mk (Below.refl w.heap.size w)
  have H : ((formelaw20_head.f k).bind fun t287 => (if (l0.length : Int) > 20 then (some t287) else ((some (([] : List (S43)) : List (S43))).bind fun y288 => (if y288.length + l0.length < 17592186044416 then (formelaw20_FloatsHigh.l0 k a1 t287 (y288 ++ l0) 0 a2_0 a2_1 a2_2 a2_3) else (none))))) = some r := h
  clear h
  replace H := Option.bind_eq_some_iff.mp H
  obtain ⟨t287, A40, H⟩ := H
  replace H : (if (l0.length : Int) > 20 then (some t287) else ((some (([] : List (S43)) : List (S43))).bind fun y288 => (if y288.length + l0.length < 17592186044416 then (formelaw20_FloatsHigh.l0 k a1 t287 (y288 ++ l0) 0 a2_0 a2_1 a2_2 a2_3) else (none)))) = some r := H
  have A4 := Aside0.mk A40
  clear A40
  by_cases c5 : (l0.length : Int) > 20
  · rw [if_pos c5] at H
    have c5b0 : decide (20 < (l0.length : Int)) = true := decide_eq_true c5
    have c5b1 : decide (20 < l0.length) = true := decide_eq_true (by omega)
    clear c5
    obtain rfl := Option.some.inj H
    go_enter Try.func5, Try.ntmps5
    go_wp2_with (first | ((with_reducible refine gate_dst (N := 5) rfl ?_); (try (refine gate_guard (by rfl) ?_; dsimp only)); refine box_event ?hg (N := 5) ?hd (cs := #[.int .u8 a2_0, .int .u16 a2_1, .int .u16 a2_2, .int .u16 a2_3]) (t := 43) ?hr ?_; (case hd => rfl); (case hg => rfl); (case hr => (go_simp; done)); intro gb286 hg w6 hbox hb; have n0_ := Aside0.mk (below_step (by repeat ((with_reducible exact HB.out))) hb); have n1_ := Aside0.mk (hbox); have n2_ := Aside0.mk ((by rw [hg]; exact (below_size (by repeat ((with_reducible exact HB.out)))) : w.heap.size ≤ gb286)); have n3_ := Aside0.mk ((by rw [hg]; exact (below_size (by repeat ((with_reducible exact HB.out)))) : w.heap.size ≤ gb286)); clear HB; have HB := n0_; have BK286 := n1_; have GW286 := n2_; have GE286 := n3_; clear n0_ n1_ n2_ n3_; clear hb hbox hg) | ((with_reducible refine gate_callee (f := 9) rfl ?_); refine goesL_ (some 22) rfl rfl Try.func9 (by kernel_rfl) rfl #[] rfl (by (try simp only [List.map_toArray, List.map_cons, List.map_nil]); done) ?_; (with_reducible refine (formelaw20_head.calls k  t287 _ A4.out).mono ?_); rintro e w7 ⟨rfl, hb⟩; refine ⟨_, rfl, ?_⟩; have n0_ := Aside0.mk (blk_below (g := gb286) (o := .cells #[.int .u8 a2_0, .int .u16 a2_1, .int .u16 a2_2, .int .u16 a2_3] 43 (0, 0)) (by (with_reducible repeat (fail)); exact BK286.out) hb); have n1_ := Aside0.mk (below_step (by repeat ((with_reducible exact HB.out))) hb); clear BK286; clear HB; have BK286 := n0_; have HB := n1_; clear n0_ n1_; (try clear hb)))
    go_ret
    exact ⟨by rfl, by repeat ((with_reducible exact HB.out))⟩
  · rw [if_neg c5] at H
    have c5b0 : decide (20 < (l0.length : Int)) = false := decide_eq_false c5
    have c5b1 : decide (20 < l0.length) = false := decide_eq_false (by omega)
    clear c5
    obtain ⟨y288, hy288⟩ : ∃ y_ : List (S43), y_ = (([] : List (S43))) := ⟨_, rfl⟩
    replace H : (if y288.length + l0.length < 17592186044416 then (formelaw20_FloatsHigh.l0 k a1 t287 (y288 ++ l0) 0 a2_0 a2_1 a2_2 a2_3) else (none)) = some r := by (have H2_ := (Option.bind_some _ _).symm.trans H; rw [hy288]; with_reducible exact H2_)
    have Ny288 := Aside0.mk hy288
    clear hy288
    by_cases c8 : y288.length + l0.length < 17592186044416
    · rw [if_pos c8] at H
      have LMc8 := Aside0.mk c8
      clear c8
      obtain ⟨y291, hy291⟩ : ∃ y_ : List (S43), y_ = (y288 ++ l0) := ⟨_, rfl⟩
      replace H : (formelaw20_FloatsHigh.l0 k a1 t287 y291 0 a2_0 a2_1 a2_2 a2_3) = some r := by (rw [hy291]; with_reducible exact H)
      have Ny291 := Aside0.mk hy291
      clear hy291
      have H' := Aside0.mk H
      clear H
      go_enter Try.func5, Try.ntmps5
      go_wp2_with (first | ((with_reducible refine gate_dst (N := 5) rfl ?_); (try (refine gate_guard (by rfl) ?_; dsimp only)); refine box_event ?hg (N := 5) ?hd (cs := #[.int .u8 a2_0, .int .u16 a2_1, .int .u16 a2_2, .int .u16 a2_3]) (t := 43) ?hr ?_; (case hd => rfl); (case hg => rfl); (case hr => (go_simp; done)); intro gb286 hg w9 hbox hb; have n0_ := Aside0.mk (below_step (by repeat ((with_reducible exact HB.out))) hb); have n1_ := Aside0.mk (hbox); have n2_ := Aside0.mk ((by rw [hg]; exact (below_size (by repeat ((with_reducible exact HB.out)))) : w.heap.size ≤ gb286)); have n3_ := Aside0.mk ((by rw [hg]; exact (below_size (by repeat ((with_reducible exact HB.out)))) : w.heap.size ≤ gb286)); clear HB; have HB := n0_; have BK286 := n1_; have GW286 := n2_; have GE286 := n3_; clear n0_ n1_ n2_ n3_; clear hb hbox hg) | ((with_reducible refine gate_callee (f := 9) rfl ?_); refine goesL_ (some 22) rfl rfl Try.func9 (by kernel_rfl) rfl #[] rfl (by (try simp only [List.map_toArray, List.map_cons, List.map_nil]); done) ?_; (with_reducible refine (formelaw20_head.calls k  t287 _ A4.out).mono ?_); rintro e w10 ⟨rfl, hb⟩; refine ⟨_, rfl, ?_⟩; have n0_ := Aside0.mk (blk_below (g := gb286) (o := .cells #[.int .u8 a2_0, .int .u16 a2_1, .int .u16 a2_2, .int .u16 a2_3] 43 (0, 0)) (by (with_reducible repeat (fail)); exact BK286.out) hb); have n1_ := Aside0.mk (below_step (by repeat ((with_reducible exact HB.out))) hb); clear BK286; clear HB; have BK286 := n0_; have HB := n1_; clear n0_ n1_; (try clear hb)) | ((with_reducible refine gate_dst (N := 27) rfl ?_); (try (refine gate_guard (by rfl) ?_; dsimp only)); refine Kd.R_lit k43 _ 43 ?hg (N := 27) ?hd (xs := ([] : List (S43))) (inner := []) (ok := fun _ => True) (okp := fun _ => True) ?hr ?hp (fun _ hk => hk) trivial (Below.refl _ _) (Nat.le_refl _) (by simp) ?_; (case hd => rfl); (case hg => rfl); (case hr => (go_simp; done)); (case hp => exact (Reps.none _ _)); intro v289 w11 ho12 hb hg_ hnew_; clear hg_ hnew_; (rw [← Ny288.out] at ho12); have n0_ := Aside0.mk (Kd.R_lower (Kd.R_newB ho12 (g := gb286) (o := .cells #[.int .u8 a2_0, .int .u16 a2_1, .int .u16 a2_2, .int .u16 a2_3] 43 (0, 0)) (by (with_reducible repeat (fail)); exact BK286.out)) (below_size (by repeat ((with_reducible exact HB.out))))); have n1_ := Aside0.mk (blk_below (g := gb286) (o := .cells #[.int .u8 a2_0, .int .u16 a2_1, .int .u16 a2_2, .int .u16 a2_3] 43 (0, 0)) (by (with_reducible repeat (fail)); exact BK286.out) hb); have n2_ := Aside0.mk (below_step (by repeat ((with_reducible exact HB.out))) hb); clear BK286; clear HB; have HO290 := n0_; have BK286 := n1_; have HB := n2_; clear n0_ n1_ n2_; clear hb ho12) | ((with_reducible refine gate_builtin (b := .append) (xs := #[.tmp 27, .tmp 28]) rfl ?_); (try (refine gate_guard (by rfl) ?_; dsimp only)); at_builtin; refine Kd.R_append_rows k43 (w0 := w) w.heap.size rfl (.tmp 27) (.tmp 28) 36 43 (.agg #[(.int .u8 0), (.int .u16 0), (.int .u16 0), (.int .u16 0)]) 8 rfl Try.underlying36 info43 rfl (by decide) (by omega) v289 y288 l0 _ _ _ (fun k_ => k_ ≠ gb286) (fun _ => False) rfl rfl ?aO ?aR (fun _ _ h => h) (fun _ h => h.elim) ?aF ?aB ?aS ?aL ?_; (case aR => repeat (exact (Kd.C_below HR0.out HB.out))); (case aB => exact (by repeat ((with_reducible exact HB.out)))); (case aF => exact (fun k_ hk => Kd.freshB (g := gb286) (o := .cells #[.int .u8 a2_0, .int .u16 a2_1, .int .u16 a2_2, .int .u16 a2_3] 43 (0, 0)) (by (with_reducible repeat (fail)); exact BK286.out) k_ hk)); (case aO => exact (by (with_reducible repeat (fail)); exact Kd.R_mono HO290.out (fun _ hk => hk.2))); (case aS => exact (below_size (by repeat ((with_reducible exact HB.out))))); (case aL => have := LMc8.out; omega); intro v292 w13 ho hb hg hat; rw [← Ny291.out] at ho; have n0_ := Aside0.mk (blk_grown (g := gb286) (o := .cells #[.int .u8 a2_0, .int .u16 a2_1, .int .u16 a2_2, .int .u16 a2_3] 43 (0, 0)) (by (with_reducible repeat (fail)); exact BK286.out) hg (Kd.R_away HO290.out (fun _ hk => hk.2))); have n1_ := Aside0.mk (hb); have n2_ := Aside0.mk (ho); clear BK286; clear HB; clear HO290; have BK286 := n0_; have HB := n1_; have HO293 := n2_; clear n0_ n1_ n2_; clear ho hb hg hat))
      go_loopg [9] k (fun kq v9 w' => ∃ (x8_1 : List (S43)) (x9_1 : Int) (x287001_1 : Int) (x287003_1 : Int), v9 = .int .i64 x9_1 ∧ Aside0 (formelaw20_FloatsHigh.l0 kq a1 t287 x8_1 x9_1 a2_0 x287001_1 a2_2 x287003_1 = some r) ∧ Aside0 (kq ≤ k) ∧ Aside0 (Kd.R k43 43 w' w.heap.size (fun k_ => k_ ≠ gb286) v292 x8_1) ∧ Aside0 (w'.heap[gb286]? = some (.cells #[.int .u8 a2_0, .int .u16 x287001_1, .int .u16 a2_2, .int .u16 x287003_1] 43 (0, 0))) ∧ Aside0 (Below w.heap.size w w'))
      case atStart => exact ⟨(y291), (0), (a2_1), (a2_3), (by rfl), H', ⟨Nat.le_refl _⟩, ⟨by (with_reducible repeat (fail)); exact HO293.out⟩, ⟨by (with_reducible repeat (fail)); exact BK286.out⟩, ⟨by repeat ((with_reducible exact HB.out))⟩⟩
      case round =>
        clear H'
        try clear c5b0
        try clear c5b1
        obtain ⟨x8_1, x9_1, x287001_1, x287003_1, rfl, HA, HK1, HO_8, BK286, HB⟩ := hrel
        cases gk with
        | zero => exact absurd HA.out (by simp [formelaw20_FloatsHigh.l0])
        | succ k1 =>
          have H := HA.out
          clear HA
          simp only [formelaw20_FloatsHigh.l0] at H
          by_cases c14 : x9_1 < (x8_1.length : Int)
          · rw [if_pos c14] at H
            have c14b0 : decide (x9_1 < (x8_1.length : Int)) = true := decide_eq_true c14
            clear c14
            by_cases c15 : 0 ≤ x9_1
            · rw [if_pos c15] at H
              have c15b0 : decide (0 ≤ x9_1) = true := decide_eq_true c15
              clear c15
              obtain ⟨y296, hy296⟩ : ∃ y_ : List (S43), y_ = (x8_1.set (x9_1 : Int).toNat (⟨(rd_T43 x8_1 x9_1).f0, Int.tmod ((rd_T43 x8_1 x9_1).f1) 300, (rd_T43 x8_1 x9_1).f2, (rd_T43 x8_1 x9_1).f3⟩ : S43)) := ⟨_, rfl⟩
              replace H : (formelaw20_FloatsHigh.l0 k1 a1 t287 (y296.set (x9_1 : Int).toNat (⟨(rd_T43 y296 x9_1).f0, (rd_T43 y296 x9_1).f1, (rd_T43 y296 x9_1).f2, Int.tmod ((rd_T43 x8_1 x9_1).f3) 100⟩ : S43)) (wrap64 (x9_1 + 1)) a2_0 x287001_1 a2_2 x287003_1) = some r := by (have H2_ := (Option.bind_some _ _).symm.trans H; rw [hy296]; with_reducible exact H2_)
              have Ny296 := Aside0.mk hy296
              clear hy296
              obtain ⟨y297, hy297⟩ : ∃ y_ : List (S43), y_ = (y296.set (x9_1 : Int).toNat (⟨(rd_T43 y296 x9_1).f0, (rd_T43 y296 x9_1).f1, (rd_T43 y296 x9_1).f2, Int.tmod ((rd_T43 x8_1 x9_1).f3) 100⟩ : S43)) := ⟨_, rfl⟩
              replace H : (formelaw20_FloatsHigh.l0 k1 a1 t287 y297 (wrap64 (x9_1 + 1)) a2_0 x287001_1 a2_2 x287003_1) = some r := by (rw [hy297]; with_reducible exact H)
              have Ny297 := Aside0.mk hy297
              clear hy297
              have H' := Aside0.mk H
              clear H
              obtain ⟨Ao18, co18, eo18⟩ := Kd.R_slice HO_8.out
              subst eo18
              try go_wp2
              have n0_ := Aside0.mk (Kd.R_drew HO_8.out)
              have n1_ := Aside0.mk (blk_drew BK286.out)
              have n2_ := Aside0.mk (below_drew1 HB.out)
              clear HO_8
              clear BK286
              clear HB
              have HO_8 := n0_
              have BK286 := n1_
              have HB := n2_
              clear n0_ n1_ n2_
              have p294 : 0 ≤ (x9_1 : Int) := of_decide_eq_true (by (with_reducible assumption))
              have q294 : x9_1 < (x8_1.length : Int) := of_decide_eq_true (by (with_reducible assumption))
              obtain ⟨ad294, e294, hx294_0, hx294_1, hx294_2, hx294_3⟩ := at_T43 (Kd.R_reads' HO_8.out).2.2 x9_1 p294 q294
              cases e294
              replace p294 := eq_true p294
              replace q294 := eq_true q294
              have p295 : 0 ≤ (x9_1 : Int) := of_decide_eq_true (by (with_reducible assumption))
              have q295 : x9_1 < (x8_1.length : Int) := of_decide_eq_true (by (with_reducible assumption))
              obtain ⟨ad295, e295, hx295_0, hx295_1, hx295_2, hx295_3⟩ := at_T43 (Kd.R_reads' HO_8.out).2.2 x9_1 p295 q295
              obtain rfl : ad294 = ad295 := (by injection e295)
              replace p295 := eq_true p295
              replace q295 := eq_true q295
              have p16 : 0 ≤ (x9_1 : Int) := of_decide_eq_true (by (with_reducible assumption))
              have q16 : (x9_1 : Int) < ((x8_1.length : Int) : Int) := of_decide_eq_true (by (with_reducible assumption))
              obtain ⟨go16, co16, eo16, gb16, gl16, cl16, HG16⟩ := Kd.R_form HO_8.out (by omega)
              (cases eo16)
              have GB16 := Aside0.mk gb16
              have GG16 := Aside0.mk HG16
              clear gb16 gl16 HG16
              (simp only [add_plain] at hx294_0)
              (simp only [add_plain] at hx294_1)
              (simp only [add_plain] at hx294_2)
              (simp only [add_plain] at hx294_3)
              (simp only [add_plain] at hx295_0)
              (simp only [add_plain] at hx295_1)
              (simp only [add_plain] at hx295_2)
              (simp only [add_plain] at hx295_3)
              obtain ⟨ce16, hcl16, hM16, hcc16, hfr16⟩ := Kd.R_elem HO_8.out z43 (x9_1 : Int) p16 q16
              obtain rfl := k43_openM hM16
              have hx16_0 : World.cell? _ ⟨go16, (x9_1 : Int).toNat * 4, none⟩ = some (.int .u8 ((rd_T43 x8_1 x9_1).f0)) := hcc16 0 _ rfl
              have hx16_1 : World.cell? _ ⟨go16, (x9_1 : Int).toNat * 4 + 1, none⟩ = some (.int .u16 ((rd_T43 x8_1 x9_1).f1)) := hcc16 1 _ rfl
              have hx16_2 : World.cell? _ ⟨go16, (x9_1 : Int).toNat * 4 + 2, none⟩ = some (.int .u16 ((rd_T43 x8_1 x9_1).f2)) := hcc16 2 _ rfl
              have hx16_3 : World.cell? _ ⟨go16, (x9_1 : Int).toNat * 4 + 3, none⟩ = some (.int .u16 ((rd_T43 x8_1 x9_1).f3)) := hcc16 3 _ rfl
              have hf16_0 : World.frozen? _ ⟨go16, (x9_1 : Int).toNat * 4, none⟩ = false := hfr16 0
              have hf16_1 : World.frozen? _ ⟨go16, (x9_1 : Int).toNat * 4 + 1, none⟩ = false := hfr16 1
              have hf16_2 : World.frozen? _ ⟨go16, (x9_1 : Int).toNat * 4 + 2, none⟩ = false := hfr16 2
              have hf16_3 : World.frozen? _ ⟨go16, (x9_1 : Int).toNat * 4 + 3, none⟩ = false := hfr16 3
              clear hcl16 hcc16 hfr16 hM16
              replace p16 := eq_true p16
              replace q16 := eq_true q16
              obtain ⟨ce20, hcl20, hM20, hcc20, hfr20⟩ := Kd.R_elem HO_8.out z43 (x9_1 : Int) (of_decide_eq_true (by (with_reducible assumption))) (by have h_ : (x9_1 : Int) < ((x8_1.length : Int) : Int) := of_decide_eq_true (by (with_reducible assumption)); exact h_)
              obtain rfl := k43_openM hM20
              have HP20 := (Kd.R_seg HO_8.out (x9_1 : Int) (of_decide_eq_true (by (with_reducible assumption))) (by have h_ : (x9_1 : Int) < ((x8_1.length : Int) : Int) := of_decide_eq_true (by (with_reducible assumption)); exact h_) (seg := [.int .u16 (Int.tmod ((rd_T43 x8_1 x9_1).f1) 300)]) (j := 1) hcl20 hcc20 (show 2 ≤ 4 from by decide) (x' := (⟨(rd_T43 x8_1 x9_1).f0, Int.tmod ((rd_T43 x8_1 x9_1).f1) 300, (rd_T43 x8_1 x9_1).f2, (rd_T43 x8_1 x9_1).f3⟩ : S43)) (k43_mkM _ _ _ (⟨(rd_T43 x8_1 x9_1).f0, Int.tmod ((rd_T43 x8_1 x9_1).f1) 300, (rd_T43 x8_1 x9_1).f2, (rd_T43 x8_1 x9_1).f3⟩ : S43) ) (fun _ hk => hk)).1
              rw [← Ny296.out] at HP20
              have HQ20 := Aside0.mk HP20
              clear hcl20 hcc20 hfr20 hM20 HP20
              have p17 : 0 ≤ (x9_1 : Int) := of_decide_eq_true (by (with_reducible assumption))
              have q17 : (x9_1 : Int) < ((x8_1.length : Int) : Int) := of_decide_eq_true (by (with_reducible assumption))
              replace p17 := eq_true p17
              replace q17 := eq_true q17
              obtain ⟨ce21, hcl21, hM21, hcc21, hfr21⟩ := Kd.R_elem HQ20.out z43 (x9_1 : Int) (of_decide_eq_true (by (with_reducible assumption))) (by have h_ : (x9_1 : Int) < ((x8_1.length : Int) : Int) := of_decide_eq_true (by (with_reducible assumption)); exact h_)
              obtain rfl := k43_openM hM21
              have HP21 := (Kd.R_seg HQ20.out (x9_1 : Int) (of_decide_eq_true (by (with_reducible assumption))) (by have h_ : (x9_1 : Int) < ((x8_1.length : Int) : Int) := of_decide_eq_true (by (with_reducible assumption)); exact h_) (seg := [.int .u16 (Int.tmod ((rd_T43 x8_1 x9_1).f3) 100)]) (j := 3) hcl21 hcc21 (show 4 ≤ 4 from by decide) (x' := (⟨(rd_T43 y296 x9_1).f0, (rd_T43 y296 x9_1).f1, (rd_T43 y296 x9_1).f2, Int.tmod ((rd_T43 x8_1 x9_1).f3) 100⟩ : S43)) (k43_mkM _ _ _ (⟨(rd_T43 y296 x9_1).f0, (rd_T43 y296 x9_1).f1, (rd_T43 y296 x9_1).f2, Int.tmod ((rd_T43 x8_1 x9_1).f3) 100⟩ : S43) ) (fun _ hk => hk)).1
              rw [← Ny297.out] at HP21
              have HQ21 := Aside0.mk HP21
              clear hcl21 hcc21 hfr21 hM21 HP21
              refine start_ (n := 22) (S := fun w' => w'.cell? ⟨go16, ((x9_1).toNat * 4), none⟩ = some (.int .u8 ((rd_T43 x8_1 x9_1).f0)) ∧ w'.cell? ⟨go16, ((x9_1).toNat * 4) + 1, none⟩ = some (.int .u16 ((rd_T43 x8_1 x9_1).f1)) ∧ w'.cell? ⟨go16, ((x9_1).toNat * 4) + 2, none⟩ = some (.int .u16 ((rd_T43 x8_1 x9_1).f2)) ∧ w'.cell? ⟨go16, ((x9_1).toNat * 4) + 3, none⟩ = some (.int .u16 ((rd_T43 x8_1 x9_1).f3)) ∧ w'.cell? ⟨go16, ((x9_1).toNat * 4), none⟩ = some (.int .u8 ((rd_T43 x8_1 x9_1).f0)) ∧ w'.cell? ⟨go16, ((x9_1).toNat * 4) + 1, none⟩ = some (.int .u16 ((rd_T43 x8_1 x9_1).f1)) ∧ w'.cell? ⟨go16, ((x9_1).toNat * 4) + 2, none⟩ = some (.int .u16 ((rd_T43 x8_1 x9_1).f2)) ∧ w'.cell? ⟨go16, ((x9_1).toNat * 4) + 3, none⟩ = some (.int .u16 ((rd_T43 x8_1 x9_1).f3))) (ds := [18, 21]) #[false, false, false, false, false, false, false, false, false, false, false, false, false, false, false, false, false, false, false, false, false, false] (by kernel_rfl) rfl rfl ⟨hx294_0, hx294_1, hx294_2, hx294_3, hx295_0, hx295_1, hx295_2, hx295_3⟩ (fun hHeld => ?_); refine with_tabW formelaw20_FloatsHigh.tab8 formelaw20_FloatsHigh.bits8 (fun HT_ HW_ => ?_)
              generalize wr.drew = w19 at HO_8 BK286 HB GG16 HQ20 HQ21 hf16_0 hf16_1 hf16_2 hf16_3 hx16_0 hx16_1 hx16_2 hx16_3 hx294_0 hx294_1 hx294_2 hx294_3 hx295_0 hx295_1 hx295_2 hx295_3 hHeld ⊢
              refine pure_ (i := 0) (N := some 36) (v := ?_) (a' := ?_) #[true, false, false, false, false, false, false, false, false, false, false, false, false, false, false, false, false, false, false, false, false, false] rfl rfl (any_of HT_.out (by kernel_rfl)) (fun _ _ _ h => h) (Or.inl ⟨by rfl, ?_⟩) ?_ ?_
              rotate_left
              · intro w'
                go_simp
                with_reducible rfl
              rotate_left
              · simp only [Act.put, List.setIfInBounds_toArray, List.set_cons_zero, List.set_cons_succ, i64_w, i32_w]
                rfl
              refine pure_ (i := 1) (N := some 37) (v := ?_) (a' := ?_) #[true, true, false, false, false, false, false, false, false, false, false, false, false, false, false, false, false, false, false, false, false, false] rfl rfl (any_of HT_.out (by kernel_rfl)) (fun _ _ _ h => h) (Or.inl ⟨by rfl, ?_⟩) ?_ ?_
              rotate_left
              · intro w'
                go_simp
                with_reducible rfl
              rotate_left
              · simp only [Act.put, List.setIfInBounds_toArray, List.set_cons_zero, List.set_cons_succ, i64_w, i32_w]
                rfl
              refine pure_ (i := 2) (N := some 38) (v := ?_) (a' := ?_) #[true, true, true, false, false, false, false, false, false, false, false, false, false, false, false, false, false, false, false, false, false, false] rfl rfl (any_of HT_.out (by kernel_rfl)) (fun _ _ _ h => h) (Or.inl ⟨by rfl, ?_⟩) ?_ ?_
              rotate_left
              · intro w'
                go_simp
                with_reducible rfl
              rotate_left
              · simp only [Act.put, List.setIfInBounds_toArray, List.set_cons_zero, List.set_cons_succ, i64_w, i32_w]
                rfl
              refine pure_ (i := 3) (N := some 39) (v := ?_) (a' := ?_) #[true, true, true, true, false, false, false, false, false, false, false, false, false, false, false, false, false, false, false, false, false, false] rfl rfl (any_of HT_.out (by kernel_rfl)) (fun _ _ _ h => h) (Or.inl ⟨by rfl, ?_⟩) ?_ ?_
              rotate_left
              · intro w'
                go_simp
                with_reducible rfl
              rotate_left
              · simp only [Act.put, List.setIfInBounds_toArray, List.set_cons_zero, List.set_cons_succ, i64_w, i32_w]
                rfl
              refine pure_ (i := 4) (N := some 40) (v := ?_) (a' := ?_) #[true, true, true, true, true, false, false, false, false, false, false, false, false, false, false, false, false, false, false, false, false, false] rfl rfl (any_of HT_.out (by kernel_rfl)) (fun _ _ _ h => h) (Or.inl ⟨by rfl, ?_⟩) ?_ ?_
              rotate_left
              · intro w'
                go_simp
                with_reducible rfl
              rotate_left
              · simp only [Act.put, List.setIfInBounds_toArray, List.set_cons_zero, List.set_cons_succ, i64_w, i32_w]
                rfl
              refine pure_ (i := 5) (N := some 41) (v := ?_) (a' := ?_) #[true, true, true, true, true, true, false, false, false, false, false, false, false, false, false, false, false, false, false, false, false, false] rfl rfl (any_of HT_.out (by kernel_rfl)) (fun _ _ _ h => h) (Or.inl ⟨by rfl, ?_⟩) ?_ ?_
              rotate_left
              · intro w'
                go_simp
                with_reducible rfl
              rotate_left
              · simp only [Act.put, List.setIfInBounds_toArray, List.set_cons_zero, List.set_cons_succ, i64_w, i32_w]
                rfl
              refine pure_ (i := 6) (N := some 42) (v := ?_) (a' := ?_) #[true, true, true, true, true, true, true, false, false, false, false, false, false, false, false, false, false, false, false, false, false, false] rfl rfl (any_of HT_.out (by kernel_rfl)) (fun _ _ _ h => h) (Or.inl ⟨by rfl, ?_⟩) ?_ ?_
              rotate_left
              · intro w'
                go_simp
                with_reducible rfl
              rotate_left
              · simp only [Act.put, List.setIfInBounds_toArray, List.set_cons_zero, List.set_cons_succ, i64_w, i32_w]
                rfl
              refine pure_ (i := 7) (N := some 43) (v := ?_) (a' := ?_) #[true, true, true, true, true, true, true, true, false, false, false, false, false, false, false, false, false, false, false, false, false, false] rfl rfl (any_of HT_.out (by kernel_rfl)) (fun _ _ _ h => h) (Or.inl ⟨by rfl, ?_⟩) ?_ ?_
              rotate_left
              · intro w'
                go_simp
                with_reducible rfl
              rotate_left
              · simp only [Act.put, List.setIfInBounds_toArray, List.set_cons_zero, List.set_cons_succ, i64_w, i32_w]
                rfl
              refine pure_ (i := 10) (N := some 46) (v := ?_) (a' := ?_) #[true, true, true, true, true, true, true, true, false, false, true, false, false, false, false, false, false, false, false, false, false, false] rfl rfl (any_of HT_.out (by kernel_rfl)) (fun _ _ _ h => h) (Or.inl ⟨by rfl, ?_⟩) ?_ ?_
              rotate_left
              · intro w'
                go_simp
                with_reducible rfl
              rotate_left
              · simp only [Act.put, List.setIfInBounds_toArray, List.set_cons_zero, List.set_cons_succ, i64_w, i32_w]
                rfl
              refine pure_ (i := 11) (N := some 47) (v := ?_) (a' := ?_) #[true, true, true, true, true, true, true, true, false, false, true, true, false, false, false, false, false, false, false, false, false, false] rfl rfl (any_of HT_.out (by kernel_rfl)) (fun _ _ _ h => h) (Or.inl ⟨by rfl, ?_⟩) ?_ ?_
              rotate_left
              · intro w'
                go_simp
                with_reducible rfl
              rotate_left
              · simp only [Act.put, List.setIfInBounds_toArray, List.set_cons_zero, List.set_cons_succ, i64_w, i32_w]
                rfl
              refine pure_ (i := 12) (N := some 48) (v := ?_) (a' := ?_) #[true, true, true, true, true, true, true, true, false, false, true, true, true, false, false, false, false, false, false, false, false, false] rfl rfl (any_of HT_.out (by kernel_rfl)) (fun _ _ _ h => h) (Or.inl ⟨by rfl, ?_⟩) ?_ ?_
              rotate_left
              · intro w'
                go_simp
                with_reducible rfl
              rotate_left
              · simp only [Act.put, List.setIfInBounds_toArray, List.set_cons_zero, List.set_cons_succ, i64_w, i32_w]
                rfl
              refine pure_ (i := 13) (N := some 49) (v := ?_) (a' := ?_) #[true, true, true, true, true, true, true, true, false, false, true, true, true, true, false, false, false, false, false, false, false, false] rfl rfl (any_of HT_.out (by kernel_rfl)) (fun _ _ _ h => h) (Or.inl ⟨by rfl, ?_⟩) ?_ ?_
              rotate_left
              · intro w'
                go_simp
                with_reducible rfl
              rotate_left
              · simp only [Act.put, List.setIfInBounds_toArray, List.set_cons_zero, List.set_cons_succ, i64_w, i32_w]
                rfl
              refine take_ (i := 8) (N := some 44) (v := ?_) (a' := ?_) #[true, true, true, true, true, true, true, true, true, false, true, true, true, true, false, false, false, false, false, false, false, false] rfl rfl (take_ofW HT_.out HW_.out (by kernel_rfl)) (fun _ _ _ h => h) (Or.inl ⟨by rfl, ?_⟩) hHeld ?_ ?_
              rotate_left
              · rintro w' ⟨s0, s1, s2, s3, s4, s5, s6, s7⟩
                go_simp
                with_reducible rfl
              rotate_left
              · simp only [Act.put, List.setIfInBounds_toArray, List.set_cons_zero, List.set_cons_succ, i64_w, i32_w]
                rfl
              refine pure_ (i := 9) (N := some 45) (v := ?_) (a' := ?_) #[true, true, true, true, true, true, true, true, true, true, true, true, true, true, false, false, false, false, false, false, false, false] rfl rfl (any_of HT_.out (by kernel_rfl)) (fun _ _ _ h => h) (Or.inl ⟨by rfl, ?_⟩) ?_ ?_
              rotate_left
              · intro w'
                go_simp
                with_reducible rfl
              rotate_left
              · simp only [Act.put, List.setIfInBounds_toArray, List.set_cons_zero, List.set_cons_succ, i64_w, i32_w]
                rfl
              refine take_ (i := 14) (N := some 50) (v := ?_) (a' := ?_) #[true, true, true, true, true, true, true, true, true, true, true, true, true, true, true, false, false, false, false, false, false, false] rfl rfl (take_ofW HT_.out HW_.out (by kernel_rfl)) (fun _ _ _ h => h) (Or.inl ⟨by rfl, ?_⟩) hHeld ?_ ?_
              rotate_left
              · rintro w' ⟨s0, s1, s2, s3, s4, s5, s6, s7⟩
                go_simp
                with_reducible rfl
              rotate_left
              · simp only [Act.put, List.setIfInBounds_toArray, List.set_cons_zero, List.set_cons_succ, i64_w, i32_w]
                rfl
              refine pure_ (i := 15) (N := some 51) (v := ?_) (a' := ?_) #[true, true, true, true, true, true, true, true, true, true, true, true, true, true, true, true, false, false, false, false, false, false] rfl rfl (any_of HT_.out (by kernel_rfl)) (fun _ _ _ h => h) (Or.inl ⟨by rfl, ?_⟩) ?_ ?_
              rotate_left
              · intro w'
                go_simp
                with_reducible rfl
              rotate_left
              · simp only [Act.put, List.setIfInBounds_toArray, List.set_cons_zero, List.set_cons_succ, i64_w, i32_w]
                rfl
              refine pure_ (i := 16) (N := some 52) (v := ?_) (a' := ?_) #[true, true, true, true, true, true, true, true, true, true, true, true, true, true, true, true, true, false, false, false, false, false] rfl rfl (any_of HT_.out (by kernel_rfl)) (fun _ _ _ h => h) (Or.inl ⟨by rfl, ?_⟩) ?_ ?_
              rotate_left
              · intro w'
                go_simp
                with_reducible rfl
              rotate_left
              · simp only [Act.put, List.setIfInBounds_toArray, List.set_cons_zero, List.set_cons_succ, i64_w, i32_w]
                rfl
              refine pure_ (i := 17) (N := some 53) (v := ?_) (a' := ?_) #[true, true, true, true, true, true, true, true, true, true, true, true, true, true, true, true, true, true, false, false, false, false] rfl rfl (any_of HT_.out (by kernel_rfl)) (fun _ _ _ h => h) (Or.inl ⟨by rfl, ?_⟩) ?_ ?_
              rotate_left
              · intro w'
                go_simp
                with_reducible rfl
              rotate_left
              · simp only [Act.put, List.setIfInBounds_toArray, List.set_cons_zero, List.set_cons_succ, i64_w, i32_w]
                rfl
              refine last_ (i := 18) (N := none) #[true, true, true, true, true, true, true, true, true, true, true, true, true, true, true, true, true, true, true, false, false, false] rfl rfl (one_of HT_.out (by kernel_rfl)) (by decide) (fun K hK => ?_)
              refine skip_ (w1 := ?_) (by rfl) rfl ?_ ?_
              rotate_left
              · go_simp
                rfl
              refine hK.out _ _ ?_
              clear hK K
              refine pure_ (i := 19) (N := some 54) (v := ?_) (a' := ?_) #[true, true, true, true, true, true, true, true, true, true, true, true, true, true, true, true, true, true, true, true, false, false] rfl rfl (any_of HT_.out (by kernel_rfl)) (fun _ _ _ h => h) (Or.inl ⟨by rfl, ?_⟩) ?_ ?_
              rotate_left
              · intro w'
                go_simp
                with_reducible rfl
              rotate_left
              · simp only [Act.put, List.setIfInBounds_toArray, List.set_cons_zero, List.set_cons_succ, i64_w, i32_w]
                rfl
              refine pure_ (i := 20) (N := some 55) (v := ?_) (a' := ?_) #[true, true, true, true, true, true, true, true, true, true, true, true, true, true, true, true, true, true, true, true, true, false] rfl rfl (any_of HT_.out (by kernel_rfl)) (fun _ _ _ h => h) (Or.inl ⟨by rfl, ?_⟩) ?_ ?_
              rotate_left
              · intro w'
                go_simp
                with_reducible rfl
              rotate_left
              · simp only [Act.put, List.setIfInBounds_toArray, List.set_cons_zero, List.set_cons_succ, i64_w, i32_w]
                rfl
              refine last_ (i := 21) (N := none) #[true, true, true, true, true, true, true, true, true, true, true, true, true, true, true, true, true, true, true, true, true, true] rfl rfl (one_of HT_.out (by kernel_rfl)) (by decide) (fun K hK => ?_)
              refine skip_ (w1 := ?_) (by rfl) rfl ?_ ?_
              rotate_left
              · go_simp
                rfl
              refine hK.out _ _ ?_
              clear hK K
              refine done_ (done_of HT_.out (by kernel_rfl)) ?_
              try go_wp2
              go_roundg k1
              case measure => have := HK1.out; omega
              case rel => exact ⟨(y297), (wrap64 (x9_1 + 1)), (x287001_1), (x287003_1), (by rfl), H', ⟨by have := HK1.out; omega⟩, ⟨by (with_reducible repeat (fail)); exact HQ21.out⟩, ⟨by (with_reducible repeat (fail)); refine blk_far ?_ (by have h_ := Kd.R_away HO_8.out (fun _ hk => hk); intro e_; exact h_ (by rw [e_]; rfl)) _; (with_reducible repeat (fail)); refine blk_far ?_ (by have h_ := Kd.R_away HO_8.out (fun _ hk => hk); intro e_; exact h_ (by rw [e_]; rfl)) _; (with_reducible repeat (fail)); exact BK286.out⟩, ⟨by repeat ((with_reducible first | exact HB.out | refine below_set ?_ GB16.out))⟩⟩
            · rw [if_neg c15] at H
              exact absurd H (by simp)
          · rw [if_neg c14] at H
            have c14b0 : decide (x9_1 < (x8_1.length : Int)) = false := decide_eq_false c14
            clear c14
            replace H := Option.bind_eq_some_iff.mp H
            obtain ⟨⟨t298, t299⟩, A220, H⟩ := H
            replace H : ((floats_Place.f t298 (wrap64 (a1)) (wrap64 (1 + (Int.tmod (wrap64 (a2_0)) 2))) (wrap64 (Int.tmod x287001_1 300)) (wrap64 (a2_2)) (wrap64 (Int.tmod x287003_1 100))).bind fun bt302 => (if t299 = true then (if bt302.2 = 0 then (formelaw20_FloatsHigh.j1 k1 t287 (wrap64 (a1)) t298 (wrap64 (Int.tmod x287001_1 300)) (wrap64 (a2_2)) (wrap64 (Int.tmod x287003_1 100)) bt302.1 ((bt302.1.length : Int) != (wrap64 ((t298.length : Int) + 1)))) else (formelaw20_FloatsHigh.j1 k1 t287 (wrap64 (a1)) t298 (wrap64 (Int.tmod x287001_1 300)) (wrap64 (a2_2)) (wrap64 (Int.tmod x287003_1 100)) bt302.1 true)) else (formelaw20_FloatsHigh.j1 k1 t287 (wrap64 (a1)) t298 (wrap64 (Int.tmod x287001_1 300)) (wrap64 (a2_2)) (wrap64 (Int.tmod x287003_1 100)) bt302.1 true))) = some r := H
            have A22 := Aside0.mk A220
            clear A220
            replace H := Option.bind_eq_some_iff.mp H
            obtain ⟨⟨t302, t303⟩, A230, H⟩ := H
            replace H : (if t299 = true then (if t303 = 0 then (formelaw20_FloatsHigh.j1 k1 t287 (wrap64 (a1)) t298 (wrap64 (Int.tmod x287001_1 300)) (wrap64 (a2_2)) (wrap64 (Int.tmod x287003_1 100)) t302 ((t302.length : Int) != (wrap64 ((t298.length : Int) + 1)))) else (formelaw20_FloatsHigh.j1 k1 t287 (wrap64 (a1)) t298 (wrap64 (Int.tmod x287001_1 300)) (wrap64 (a2_2)) (wrap64 (Int.tmod x287003_1 100)) t302 true)) else (formelaw20_FloatsHigh.j1 k1 t287 (wrap64 (a1)) t298 (wrap64 (Int.tmod x287001_1 300)) (wrap64 (a2_2)) (wrap64 (Int.tmod x287003_1 100)) t302 true)) = some r := H
            have A23 := Aside0.mk A230
            clear A230
            have HC24 := Aside0.mk H
            clear H
            obtain ⟨Ao25, co25, eo25⟩ := Kd.R_slice HO_8.out
            subst eo25
            try go_wp2_with (((with_reducible refine gate_callee (f := 19) rfl ?_); refine goesL_ (some 61) rfl rfl Try.func19 (by kernel_rfl) rfl #[.slice Ao25 x8_1.length co25, .int .i64 (wrap64 (a1)), .bool false] rfl (by (try simp only [List.map_toArray, List.map_cons, List.map_nil]); rfl) ?_; (with_reducible refine (formelaw20_placed.calls k1 _ _ x8_1 (wrap64 (a1)) false t298 t299 _ ?side1 ?side2 A22.out).mono ?_); (case side1 => repeat (exact (Kd.R_reads' HO_8.out).2.2)); (case side2 => exact (Kd.R_reads' HO_8.out).2.1); rintro e w26 ⟨v300, rfl, ho0, hb⟩; refine ⟨_, rfl, ?_⟩; have n0_ := Aside0.mk (Kd.R_below (by (with_reducible repeat (fail)); exact HO_8.out) hb); have n1_ := Aside0.mk (Kd.R_lower ho0 (below_size (by repeat ((with_reducible exact HB.out))))); have n2_ := Aside0.mk (blk_below (g := gb286) (o := .cells #[.int .u8 a2_0, .int .u16 x287001_1, .int .u16 a2_2, .int .u16 x287003_1] 43 (0, 0)) (by (with_reducible repeat (fail)); exact BK286.out) hb); have n3_ := Aside0.mk (below_step (by repeat ((with_reducible exact HB.out))) hb); clear HO_8; clear BK286; clear HB; have HO_8 := n0_; have HO301 := n1_; have BK286 := n2_; have HB := n3_; clear n0_ n1_ n2_ n3_; (try clear hb); (try clear ho0)))
            have n0_ := Aside0.mk (Kd.R_drew HO_8.out)
            have n1_ := Aside0.mk (Kd.R_drew HO301.out)
            have n2_ := Aside0.mk (blk_drew BK286.out)
            have n3_ := Aside0.mk (below_drew1 HB.out)
            clear HO_8
            clear HO301
            clear BK286
            clear HB
            have HO_8 := n0_
            have HO301 := n1_
            have BK286 := n2_
            have HB := n3_
            clear n0_ n1_ n2_ n3_
            refine start_ (n := 14) (S := fun w' => w'.cell? ⟨gb286, 0, none⟩ = some (.int .u8 a2_0) ∧ w'.cell? ⟨gb286, 1, none⟩ = some (.int .u16 x287001_1) ∧ w'.cell? ⟨gb286, 2, none⟩ = some (.int .u16 a2_2) ∧ w'.cell? ⟨gb286, 3, none⟩ = some (.int .u16 x287003_1)) (ds := []) #[false, false, false, false, false, false, false, false, false, false, false, false, false, false] (by kernel_rfl) rfl rfl ⟨(blk_cell BK286.out 0).trans rfl, (blk_cell BK286.out 1).trans rfl, (blk_cell BK286.out 2).trans rfl, (blk_cell BK286.out 3).trans rfl⟩ (fun hHeld => ?_); refine with_tabW formelaw20_FloatsHigh.tab11 formelaw20_FloatsHigh.bits11 (fun HT_ HW_ => ?_)
            generalize w26.drew = w27 at HO_8 HO301 BK286 HB hHeld ⊢
            refine pure_ (i := 0) (N := some 64) (v := ?_) (a' := ?_) #[true, false, false, false, false, false, false, false, false, false, false, false, false, false] rfl rfl (any_of HT_.out (by kernel_rfl)) (fun _ _ _ h => h) (Or.inl ⟨by rfl, ?_⟩) ?_ ?_
            rotate_left
            · intro w'
              go_simp
              with_reducible rfl
            rotate_left
            · simp only [Act.put, List.setIfInBounds_toArray, List.set_cons_zero, List.set_cons_succ, i64_w, i32_w]
              rfl
            refine pure_ (i := 4) (N := some 68) (v := ?_) (a' := ?_) #[true, false, false, false, true, false, false, false, false, false, false, false, false, false] rfl rfl (any_of HT_.out (by kernel_rfl)) (fun _ _ _ h => h) (Or.inl ⟨by rfl, ?_⟩) ?_ ?_
            rotate_left
            · intro w'
              go_simp
              with_reducible rfl
            rotate_left
            · simp only [Act.put, List.setIfInBounds_toArray, List.set_cons_zero, List.set_cons_succ, i64_w, i32_w]
              rfl
            refine pure_ (i := 7) (N := some 71) (v := ?_) (a' := ?_) #[true, false, false, false, true, false, false, true, false, false, false, false, false, false] rfl rfl (any_of HT_.out (by kernel_rfl)) (fun _ _ _ h => h) (Or.inl ⟨by rfl, ?_⟩) ?_ ?_
            rotate_left
            · intro w'
              go_simp
              with_reducible rfl
            rotate_left
            · simp only [Act.put, List.setIfInBounds_toArray, List.set_cons_zero, List.set_cons_succ, i64_w, i32_w]
              rfl
            refine take_ (i := 1) (N := some 65) (v := ?_) (a' := ?_) #[true, true, false, false, true, false, false, true, false, false, false, false, false, false] rfl rfl (take_ofW HT_.out HW_.out (by kernel_rfl)) (fun _ _ _ h => h) (Or.inl ⟨by rfl, ?_⟩) hHeld ?_ ?_
            rotate_left
            · rintro w' ⟨s0, s1, s2, s3⟩
              go_simp
              with_reducible rfl
            rotate_left
            · simp only [Act.put, List.setIfInBounds_toArray, List.set_cons_zero, List.set_cons_succ, i64_w, i32_w]
              rfl
            refine pure_ (i := 2) (N := some 66) (v := ?_) (a' := ?_) #[true, true, true, false, true, false, false, true, false, false, false, false, false, false] rfl rfl (any_of HT_.out (by kernel_rfl)) (fun _ _ _ h => h) (Or.inl ⟨by rfl, ?_⟩) ?_ ?_
            rotate_left
            · intro w'
              go_simp
              with_reducible rfl
            rotate_left
            · simp only [Act.put, List.setIfInBounds_toArray, List.set_cons_zero, List.set_cons_succ, i64_w, i32_w]
              rfl
            refine pure_ (i := 3) (N := some 67) (v := ?_) (a' := ?_) #[true, true, true, true, true, false, false, true, false, false, false, false, false, false] rfl rfl (any_of HT_.out (by kernel_rfl)) (fun _ _ _ h => h) (Or.inl ⟨by rfl, ?_⟩) ?_ ?_
            rotate_left
            · intro w'
              go_simp
              with_reducible rfl
            rotate_left
            · simp only [Act.put, List.setIfInBounds_toArray, List.set_cons_zero, List.set_cons_succ, i64_w, i32_w]
              rfl
            refine pure_ (i := 11) (N := some 13) (v := ?_) (a' := ?_) #[true, true, true, true, true, false, false, true, false, false, false, true, false, false] rfl rfl (any_of HT_.out (by kernel_rfl)) (fun _ _ _ h => h) (Or.inl ⟨by rfl, ?_⟩) ?_ ?_
            rotate_left
            · intro w'
              go_simp
              with_reducible rfl
            rotate_left
            · simp only [Act.put, List.setIfInBounds_toArray, List.set_cons_zero, List.set_cons_succ, i64_w, i32_w]
              rfl
            refine take_ (i := 5) (N := some 69) (v := ?_) (a' := ?_) #[true, true, true, true, true, true, false, true, false, false, false, true, false, false] rfl rfl (take_ofW HT_.out HW_.out (by kernel_rfl)) (fun _ _ _ h => h) (Or.inl ⟨by rfl, ?_⟩) hHeld ?_ ?_
            rotate_left
            · rintro w' ⟨s0, s1, s2, s3⟩
              go_simp
              with_reducible rfl
            rotate_left
            · simp only [Act.put, List.setIfInBounds_toArray, List.set_cons_zero, List.set_cons_succ, i64_w, i32_w]
              rfl
            refine pure_ (i := 6) (N := some 70) (v := ?_) (a' := ?_) #[true, true, true, true, true, true, true, true, false, false, false, true, false, false] rfl rfl (any_of HT_.out (by kernel_rfl)) (fun _ _ _ h => h) (Or.inl ⟨by rfl, ?_⟩) ?_ ?_
            rotate_left
            · intro w'
              go_simp
              with_reducible rfl
            rotate_left
            · simp only [Act.put, List.setIfInBounds_toArray, List.set_cons_zero, List.set_cons_succ, i64_w, i32_w]
              rfl
            refine pure_ (i := 12) (N := some 14) (v := ?_) (a' := ?_) #[true, true, true, true, true, true, true, true, false, false, false, true, true, false] rfl rfl (any_of HT_.out (by kernel_rfl)) (fun _ _ _ h => h) (Or.inl ⟨by rfl, ?_⟩) ?_ ?_
            rotate_left
            · intro w'
              go_simp
              with_reducible rfl
            rotate_left
            · simp only [Act.put, List.setIfInBounds_toArray, List.set_cons_zero, List.set_cons_succ, i64_w, i32_w]
              rfl
            refine take_ (i := 8) (N := some 72) (v := ?_) (a' := ?_) #[true, true, true, true, true, true, true, true, true, false, false, true, true, false] rfl rfl (take_ofW HT_.out HW_.out (by kernel_rfl)) (fun _ _ _ h => h) (Or.inl ⟨by rfl, ?_⟩) hHeld ?_ ?_
            rotate_left
            · rintro w' ⟨s0, s1, s2, s3⟩
              go_simp
              with_reducible rfl
            rotate_left
            · simp only [Act.put, List.setIfInBounds_toArray, List.set_cons_zero, List.set_cons_succ, i64_w, i32_w]
              rfl
            refine pure_ (i := 9) (N := some 73) (v := ?_) (a' := ?_) #[true, true, true, true, true, true, true, true, true, true, false, true, true, false] rfl rfl (any_of HT_.out (by kernel_rfl)) (fun _ _ _ h => h) (Or.inl ⟨by rfl, ?_⟩) ?_ ?_
            rotate_left
            · intro w'
              go_simp
              with_reducible rfl
            rotate_left
            · simp only [Act.put, List.setIfInBounds_toArray, List.set_cons_zero, List.set_cons_succ, i64_w, i32_w]
              rfl
            refine pure_ (i := 10) (N := some 74) (v := ?_) (a' := ?_) #[true, true, true, true, true, true, true, true, true, true, true, true, true, false] rfl rfl (any_of HT_.out (by kernel_rfl)) (fun _ _ _ h => h) (Or.inl ⟨by rfl, ?_⟩) ?_ ?_
            rotate_left
            · intro w'
              go_simp
              with_reducible rfl
            rotate_left
            · simp only [Act.put, List.setIfInBounds_toArray, List.set_cons_zero, List.set_cons_succ, i64_w, i32_w]
              rfl
            refine pure_ (i := 13) (N := some 15) (v := ?_) (a' := ?_) #[true, true, true, true, true, true, true, true, true, true, true, true, true, true] rfl rfl (any_of HT_.out (by kernel_rfl)) (fun _ _ _ h => h) (Or.inl ⟨by rfl, ?_⟩) ?_ ?_
            rotate_left
            · intro w'
              go_simp
              with_reducible rfl
            rotate_left
            · simp only [Act.put, List.setIfInBounds_toArray, List.set_cons_zero, List.set_cons_succ, i64_w, i32_w]
              rfl
            refine done_ (done_of HT_.out (by kernel_rfl)) ?_
            have hcz28_0 : w27.cell? ⟨gb286, 0, none⟩ = some (.int .u8 a2_0) := (blk_cell BK286.out 0).trans rfl
            have hcz28_1 : w27.cell? ⟨gb286, 1, none⟩ = some (.int .u16 x287001_1) := (blk_cell BK286.out 1).trans rfl
            have hcz28_2 : w27.cell? ⟨gb286, 2, none⟩ = some (.int .u16 a2_2) := (blk_cell BK286.out 2).trans rfl
            have hcz28_3 : w27.cell? ⟨gb286, 3, none⟩ = some (.int .u16 x287003_1) := (blk_cell BK286.out 3).trans rfl
            have hfz28_0 := blk_frozen BK286.out 0
            have hfz28_1 := blk_frozen BK286.out 1
            have hfz28_2 := blk_frozen BK286.out 2
            have hfz28_3 := blk_frozen BK286.out 3
            obtain ⟨Ao29, co29, eo29⟩ := Kd.R_slice HO301.out
            subst eo29
            go_upto_region 13 with (((with_reducible refine gate_callee (f := 16) rfl ?_); refine goesL_ (some 86) rfl rfl Try.func16 (by kernel_rfl) rfl #[.slice Ao29 t298.length co29, .int .i64 (wrap64 (a1)), .int .i64 (wrap64 (1 + (Int.tmod (wrap64 (a2_0)) 2))), .int .i64 (wrap64 (Int.tmod x287001_1 300)), .int .i64 (wrap64 (a2_2)), .int .i64 (wrap64 (Int.tmod x287003_1 100))] rfl (by (try simp only [List.map_toArray, List.map_cons, List.map_nil]); rfl) ?_; (with_reducible refine (floats_Place.calls _ _ t298 (wrap64 (a1)) (wrap64 (1 + (Int.tmod (wrap64 (a2_0)) 2))) (wrap64 (Int.tmod x287001_1 300)) (wrap64 (a2_2)) (wrap64 (Int.tmod x287003_1 100)) t302 t303 _ ?side1 ?side2 A23.out).mono ?_); (case side1 => repeat (exact (Kd.R_reads' HO301.out).2.2)); (case side2 => exact (Kd.R_reads' HO301.out).2.1); rintro e w30 ⟨v304, rfl, ho0, hb⟩; refine ⟨_, rfl, ?_⟩; have n0_ := Aside0.mk (Kd.R_below (by (with_reducible repeat (fail)); exact HO_8.out) hb); have n1_ := Aside0.mk (Kd.R_elder' (by (with_reducible repeat (fail)); exact HO301.out) (Kd.R_base ho0) hb); have n2_ := Aside0.mk (Kd.R_lower (Kd.R_new' ho0 (Kd.R_lt (by (with_reducible repeat (fail)); exact HO301.out))) (below_size (by repeat ((with_reducible exact HB.out))))); have n3_ := Aside0.mk (blk_below (g := gb286) (o := .cells #[.int .u8 a2_0, .int .u16 x287001_1, .int .u16 a2_2, .int .u16 x287003_1] 43 (0, 0)) (by (with_reducible repeat (fail)); exact BK286.out) hb); have n4_ := Aside0.mk (below_step (by repeat ((with_reducible exact HB.out))) hb); clear HO_8; clear HO301; clear BK286; clear HB; have HO_8 := n0_; have HO301 := n1_; have HO305 := n2_; have BK286 := n3_; have HB := n4_; clear n0_ n1_ n2_ n3_ n4_; (try clear hb); (try clear ho0)))
            (try simp only [Act.put, List.setIfInBounds_toArray, List.set_cons_zero, List.set_cons_succ])
            go_cut [102] (fun v102 wc => ∃ (kq : Nat) (x102_23 : Bool), v102 = .bool x102_23 ∧ Aside0 (formelaw20_FloatsHigh.j1 kq t287 (wrap64 (a1)) t298 (wrap64 (Int.tmod x287001_1 300)) (wrap64 (a2_2)) (wrap64 (Int.tmod x287003_1 100)) t302 x102_23 = some r) ∧ Aside0 (kq ≤ k1) ∧ Aside0 (Kd.R k41 41 wc w.heap.size (fun k_ => some k_ ≠ (v304 : Value).ownBlock) (.slice Ao29 t298.length co29) t298) ∧ Aside0 (Kd.R k41 41 wc w.heap.size (fun k_ => some k_ ≠ ((.slice Ao29 t298.length co29) : Value).ownBlock) v304 t302) ∧ Aside0 (wc.heap[gb286]? = some (.cells #[.int .u8 a2_0, .int .u16 x287001_1, .int .u16 a2_2, .int .u16 x287003_1] 43 (0, 0))) ∧ Aside0 (Below w.heap.size w wc))
            case first =>
              have H := HC24.out
              clear HC24
              by_cases c31 : t299 = true
              · subst c31
                have H1 : (if t303 = 0 then (formelaw20_FloatsHigh.j1 k1 t287 (wrap64 (a1)) t298 (wrap64 (Int.tmod x287001_1 300)) (wrap64 (a2_2)) (wrap64 (Int.tmod x287003_1 100)) t302 ((t302.length : Int) != (wrap64 ((t298.length : Int) + 1)))) else (formelaw20_FloatsHigh.j1 k1 t287 (wrap64 (a1)) t298 (wrap64 (Int.tmod x287001_1 300)) (wrap64 (a2_2)) (wrap64 (Int.tmod x287003_1 100)) t302 true)) = some r := by rw [if_pos rfl] at H; exact H
                clear H
                have H := H1
                clear H1
                by_cases c32 : t303 = 0
                · rw [if_pos c32] at H
                  have c32b0 : (t303 == 0) = true := beq_iff_eq.mpr c32
                  have c32b1 : (t303 != 0) = false := bne_eq_false_iff_eq.mpr c32
                  clear c32
                  (skip)
                  have H' := Aside0.mk H
                  clear H
                  obtain ⟨Ao33, co33, eo33⟩ := Kd.R_slice HO305.out
                  subst eo33
                  go_wp2
                  go_meet
                  case rel => exact ⟨_, (((t302.length : Int) != (wrap64 ((t298.length : Int) + 1)))), (by rfl), H', ⟨by have := HK1.out; omega⟩, ⟨by (with_reducible repeat (fail)); exact Kd.R_mono HO301.out (fun _ hk => hk.2)⟩, ⟨by (with_reducible repeat (fail)); exact Kd.R_mono HO305.out (fun _ hk => hk.2)⟩, ⟨by (with_reducible repeat (fail)); exact BK286.out⟩, ⟨by repeat ((with_reducible exact HB.out))⟩⟩
                · rw [if_neg c32] at H
                  have c32b0 : (t303 == 0) = false := beq_eq_false_iff_ne.mpr c32
                  have c32b1 : (t303 != 0) = true := bne_iff_ne.mpr c32
                  (skip)
                  have H' := Aside0.mk H
                  clear H
                  go_wp2
                  go_meet
                  case rel => exact ⟨_, (true), (by rfl), H', ⟨by have := HK1.out; omega⟩, ⟨by (with_reducible repeat (fail)); exact Kd.R_mono HO301.out (fun _ hk => hk.2)⟩, ⟨by (with_reducible repeat (fail)); exact Kd.R_mono HO305.out (fun _ hk => hk.2)⟩, ⟨by (with_reducible repeat (fail)); exact BK286.out⟩, ⟨by repeat ((with_reducible exact HB.out))⟩⟩
              · replace c31 := Bool.eq_false_iff.mpr c31
                subst c31
                have H1 : (formelaw20_FloatsHigh.j1 k1 t287 (wrap64 (a1)) t298 (wrap64 (Int.tmod x287001_1 300)) (wrap64 (a2_2)) (wrap64 (Int.tmod x287003_1 100)) t302 true) = some r := by rw [if_neg (show ¬ (false = true) by decide)] at H; exact H
                clear H
                have H := H1
                clear H1
                have H' := Aside0.mk H
                clear H
                go_wp2
                go_meet
                case rel => exact ⟨_, (true), (by rfl), H', ⟨by have := HK1.out; omega⟩, ⟨by (with_reducible repeat (fail)); exact Kd.R_mono HO301.out (fun _ hk => hk.2)⟩, ⟨by (with_reducible repeat (fail)); exact Kd.R_mono HO305.out (fun _ hk => hk.2)⟩, ⟨by (with_reducible repeat (fail)); exact BK286.out⟩, ⟨by repeat ((with_reducible exact HB.out))⟩⟩
            case rest =>
              clear HC24
              try clear c14b0
              try clear hcz28_0
              try clear hcz28_1
              try clear hcz28_2
              try clear hcz28_3
              try clear hfz28_0
              try clear hfz28_1
              try clear hfz28_2
              try clear hfz28_3
              obtain ⟨kq, x102_23, rfl, HA, HJ23, HO_11, HO_16, BK286, HB⟩ := hcut
              cases kq with
              | zero => exact absurd HA.out (by simp [formelaw20_FloatsHigh.j1])
              | succ kj23 =>
                have H := HA.out
                clear HA
                simp only [formelaw20_FloatsHigh.j1] at H
                by_cases c34 : x102_23 = true
                · subst c34
                  have H1 : (some false) = some r := by rw [if_pos rfl] at H; exact H
                  clear H
                  have H := H1
                  clear H1
                  obtain rfl := Option.some.inj H
                  go_wp2
                  go_ret
                  exact ⟨by rfl, by repeat ((with_reducible exact HB.out))⟩
                · replace c34 := Bool.eq_false_iff.mpr c34
                  subst c34
                  have H1 : (if 0 ≤ (t298.length : Int) then (if (t298.length : Int) < (t302.length : Int) then (formelaw20_FloatsHigh.l1 kj23 t287 (wrap64 (a1)) t298 (wrap64 (a2_2)) (wrap64 (Int.tmod x287003_1 100)) t302 (wrap64 (Int.tmod x287001_1 300)) 0 ((rd_T41 t302 (t298.length : Int)).f0) ((rd_T41 t302 (t298.length : Int)).f1) ((rd_T41 t302 (t298.length : Int)).f2) ((rd_T41 t302 (t298.length : Int)).f3) ((rd_T41 t302 (t298.length : Int)).f4)) else (none)) else (none)) = some r := by rw [if_neg (show ¬ (false = true) by decide)] at H; exact H
                  clear H
                  have H := H1
                  clear H1
                  by_cases c35 : 0 ≤ (t298.length : Int)
                  · rw [if_pos c35] at H
                    have c35b0 : decide (0 ≤ (t298.length : Int)) = true := decide_eq_true c35
                    have c35b1 : decide (0 ≤ t298.length) = true := decide_eq_true (by omega)
                    clear c35
                    by_cases c36 : (t298.length : Int) < (t302.length : Int)
                    · rw [if_pos c36] at H
                      have c36b0 : decide ((t298.length : Int) < (t302.length : Int)) = true := decide_eq_true c36
                      have c36b1 : decide (t298.length < t302.length) = true := decide_eq_true (Int.ofNat_lt.mp c36)
                      clear c36
                      have H' := Aside0.mk H
                      clear H
                      obtain ⟨Ao37, co37, eo37⟩ := Kd.R_slice HO_16.out
                      subst eo37
                      have p306 : 0 ≤ ((t298.length : Int) : Int) := of_decide_eq_true (by (with_reducible assumption))
                      have q306 : (t298.length : Int) < (t302.length : Int) := of_decide_eq_true (by (with_reducible assumption))
                      obtain ⟨ad306, e306, hx306_0, hx306_1, hx306_2, hx306_3, hx306_4⟩ := at_T41 (Kd.R_reads' HO_16.out).2.2 (t298.length : Int) p306 q306
                      cases e306
                      (try simp only [Go.IntWalk.toNatUp] at hx306_0)
                      (try simp only [Go.IntWalk.toNatUp] at hx306_1)
                      (try simp only [Go.IntWalk.toNatUp] at hx306_2)
                      (try simp only [Go.IntWalk.toNatUp] at hx306_3)
                      (try simp only [Go.IntWalk.toNatUp] at hx306_4)
                      replace p306 := eq_true p306
                      replace q306 := eq_true q306
                      go_wp2_with (((with_reducible refine gate_dst (N := 18) rfl ?_); (try (refine gate_guard (by rfl) ?_; dsimp only)); refine box_event ?hg (N := 18) ?hd (cs := #[.int .i64 0, .int .i64 0, .int .i64 0, .int .i64 0, .int .i64 0]) (t := 41) ?hr ?_; (case hd => rfl); (case hg => rfl); (case hr => (go_simp; done)); intro gb307 hg w38 hbox hb; have n0_ := Aside0.mk (Kd.R_below (Kd.R_elderB (by (with_reducible repeat (fail)); exact HO_11.out) gb307 (Nat.le_of_eq hg.symm)) hb); have n1_ := Aside0.mk (Kd.R_below (Kd.R_elderB (by (with_reducible repeat (fail)); exact HO_16.out) gb307 (Nat.le_of_eq hg.symm)) hb); have n2_ := Aside0.mk (blk_below (g := gb286) (o := .cells #[.int .u8 a2_0, .int .u16 x287001_1, .int .u16 a2_2, .int .u16 x287003_1] 43 (0, 0)) (by (with_reducible repeat (fail)); exact BK286.out) hb); have n3_ := Aside0.mk (below_step (by repeat ((with_reducible exact HB.out))) hb); have n4_ := Aside0.mk (hbox); have n5_ := Aside0.mk ((by rw [hg]; exact (below_size (by repeat ((with_reducible exact HB.out)))) : w.heap.size ≤ gb307)); have n6_ := Aside0.mk ((by rw [hg]; exact (below_size (by repeat ((with_reducible exact HB.out)))) : w.heap.size ≤ gb307)); have n7_ := Aside0.mk ((by rw [hg]; exact Nat.ne_of_lt (blk_lt (g := gb286) (o := .cells #[.int .u8 a2_0, .int .u16 x287001_1, .int .u16 a2_2, .int .u16 x287003_1] 43 (0, 0)) (by (with_reducible repeat (fail)); exact BK286.out)) : gb286 ≠ gb307)); have n8_ := Aside0.mk ((by rw [hg]; exact Nat.ne_of_gt (blk_lt (g := gb286) (o := .cells #[.int .u8 a2_0, .int .u16 x287001_1, .int .u16 a2_2, .int .u16 x287003_1] 43 (0, 0)) (by (with_reducible repeat (fail)); exact BK286.out)) : gb307 ≠ gb286)); clear HO_11; clear HO_16; clear BK286; clear HB; have HO_11 := n0_; have HO_16 := n1_; have BK286 := n2_; have HB := n3_; have BK307 := n4_; have GW307 := n5_; have GE307 := n6_; have NB286_307 := n7_; have NB307_286 := n8_; clear n0_ n1_ n2_ n3_ n4_ n5_ n6_ n7_ n8_; clear hb hbox hg; have hnb39 := NB307_286.out; have hnc39 := NB286_307.out; have hcz40_0 : w38.cell? ⟨gb307, 0, none⟩ = some (.int .i64 0) := (blk_cell BK307.out 0).trans rfl; have hcz40_1 : w38.cell? ⟨gb307, 1, none⟩ = some (.int .i64 0) := (blk_cell BK307.out 1).trans rfl; have hcz40_2 : w38.cell? ⟨gb307, 2, none⟩ = some (.int .i64 0) := (blk_cell BK307.out 2).trans rfl; have hcz40_3 : w38.cell? ⟨gb307, 3, none⟩ = some (.int .i64 0) := (blk_cell BK307.out 3).trans rfl; have hcz40_4 : w38.cell? ⟨gb307, 4, none⟩ = some (.int .i64 0) := (blk_cell BK307.out 4).trans rfl; have hfz40_0 := blk_frozen BK307.out 0; have hfz40_1 := blk_frozen BK307.out 1; have hfz40_2 := blk_frozen BK307.out 2; have hfz40_3 := blk_frozen BK307.out 3; have hfz40_4 := blk_frozen BK307.out 4))
                      go_loopg [19, 20] kj23 (fun kq v19 v20 w' => ∃ (x19_3 : Int) (x20_3 : Int), v19 = .int .i64 x19_3 ∧ v20 = .int .i64 x20_3 ∧ Aside0 (formelaw20_FloatsHigh.l1 kq t287 (wrap64 (a1)) t298 (wrap64 (a2_2)) (wrap64 (Int.tmod x287003_1 100)) t302 x19_3 x20_3 ((rd_T41 t302 (t298.length : Int)).f0) ((rd_T41 t302 (t298.length : Int)).f1) ((rd_T41 t302 (t298.length : Int)).f2) ((rd_T41 t302 (t298.length : Int)).f3) ((rd_T41 t302 (t298.length : Int)).f4) = some r) ∧ Aside0 (kq ≤ kj23) ∧ Aside0 (Kd.R k41 41 w' w.heap.size (fun k_ => some k_ ≠ ((.slice (some ad306) t302.length co37) : Value).ownBlock ∧ k_ ≠ gb307) (.slice Ao29 t298.length co29) t298) ∧ Aside0 (Kd.R k41 41 w' w.heap.size (fun k_ => some k_ ≠ ((.slice Ao29 t298.length co29) : Value).ownBlock ∧ k_ ≠ gb307) (.slice (some ad306) t302.length co37) t302) ∧ Aside0 (w'.heap[gb286]? = some (.cells #[.int .u8 a2_0, .int .u16 x287001_1, .int .u16 a2_2, .int .u16 x287003_1] 43 (0, 0))) ∧ Aside0 (w'.heap[gb307]? = some (.cells #[.int .i64 ((rd_T41 t302 (t298.length : Int)).f0), .int .i64 ((rd_T41 t302 (t298.length : Int)).f1), .int .i64 ((rd_T41 t302 (t298.length : Int)).f2), .int .i64 ((rd_T41 t302 (t298.length : Int)).f3), .int .i64 ((rd_T41 t302 (t298.length : Int)).f4)] 41 (0, 0))) ∧ Aside0 (Below w.heap.size w w'))
                      case atStart => exact ⟨((wrap64 (Int.tmod x287001_1 300))), (0), (by rfl), (by rfl), H', ⟨Nat.le_refl _⟩, ⟨by (with_reducible repeat (fail)); exact Kd.R_mono (Kd.R_far (p := ⟨gb307, 4, none⟩) (Kd.R_far (p := ⟨gb307, 3, none⟩) (Kd.R_far (p := ⟨gb307, 2, none⟩) (Kd.R_far (p := ⟨gb307, 1, none⟩) (Kd.R_far (p := ⟨gb307, 0, none⟩) (Kd.R_mono HO_11.out (fun k_ hk => (⟨hk, hk.2⟩ : _ ∧ k_ ≠ gb307))) (fun _ hk => hk.2) (.int .i64 ((rd_T41 t302 (t298.length : Int)).f0))) (fun _ hk => hk.2) (.int .i64 ((rd_T41 t302 (t298.length : Int)).f1))) (fun _ hk => hk.2) (.int .i64 ((rd_T41 t302 (t298.length : Int)).f2))) (fun _ hk => hk.2) (.int .i64 ((rd_T41 t302 (t298.length : Int)).f3))) (fun _ hk => hk.2) (.int .i64 ((rd_T41 t302 (t298.length : Int)).f4))) (fun _ hk => ⟨hk.1.1, hk.1.2⟩)⟩, ⟨by (with_reducible repeat (fail)); exact Kd.R_mono (Kd.R_far (p := ⟨gb307, 4, none⟩) (Kd.R_far (p := ⟨gb307, 3, none⟩) (Kd.R_far (p := ⟨gb307, 2, none⟩) (Kd.R_far (p := ⟨gb307, 1, none⟩) (Kd.R_far (p := ⟨gb307, 0, none⟩) (Kd.R_mono HO_16.out (fun k_ hk => (⟨hk, hk.2⟩ : _ ∧ k_ ≠ gb307))) (fun _ hk => hk.2) (.int .i64 ((rd_T41 t302 (t298.length : Int)).f0))) (fun _ hk => hk.2) (.int .i64 ((rd_T41 t302 (t298.length : Int)).f1))) (fun _ hk => hk.2) (.int .i64 ((rd_T41 t302 (t298.length : Int)).f2))) (fun _ hk => hk.2) (.int .i64 ((rd_T41 t302 (t298.length : Int)).f3))) (fun _ hk => hk.2) (.int .i64 ((rd_T41 t302 (t298.length : Int)).f4))) (fun _ hk => ⟨hk.1.1, hk.1.2⟩)⟩, ⟨by (with_reducible repeat (fail)); refine blk_far ?_ NB286_307.out _; (with_reducible repeat (fail)); refine blk_far ?_ NB286_307.out _; (with_reducible repeat (fail)); refine blk_far ?_ NB286_307.out _; (with_reducible repeat (fail)); refine blk_far ?_ NB286_307.out _; (with_reducible repeat (fail)); refine blk_far ?_ NB286_307.out _; (with_reducible repeat (fail)); exact BK286.out⟩, ⟨by (with_reducible repeat (fail)); refine blk_put (cs := #[.int .i64 ((rd_T41 t302 (t298.length : Int)).f0), .int .i64 ((rd_T41 t302 (t298.length : Int)).f1), .int .i64 ((rd_T41 t302 (t298.length : Int)).f2), .int .i64 ((rd_T41 t302 (t298.length : Int)).f3), .int .i64 0]) ?_ 4 _ rfl; (with_reducible repeat (fail)); refine blk_put (cs := #[.int .i64 ((rd_T41 t302 (t298.length : Int)).f0), .int .i64 ((rd_T41 t302 (t298.length : Int)).f1), .int .i64 ((rd_T41 t302 (t298.length : Int)).f2), .int .i64 0, .int .i64 0]) ?_ 3 _ rfl; (with_reducible repeat (fail)); refine blk_put (cs := #[.int .i64 ((rd_T41 t302 (t298.length : Int)).f0), .int .i64 ((rd_T41 t302 (t298.length : Int)).f1), .int .i64 0, .int .i64 0, .int .i64 0]) ?_ 2 _ rfl; (with_reducible repeat (fail)); refine blk_put (cs := #[.int .i64 ((rd_T41 t302 (t298.length : Int)).f0), .int .i64 0, .int .i64 0, .int .i64 0, .int .i64 0]) ?_ 1 _ rfl; (with_reducible repeat (fail)); refine blk_put (cs := #[.int .i64 0, .int .i64 0, .int .i64 0, .int .i64 0, .int .i64 0]) ?_ 0 _ rfl; (with_reducible repeat (fail)); exact BK307.out⟩, ⟨by repeat ((with_reducible first | exact HB.out | refine below_set ?_ GE307.out))⟩⟩
                      case round =>
                        clear H'
                        try clear c35b0
                        try clear c35b1
                        try clear c36b0
                        try clear c36b1
                        try clear hcz40_0
                        try clear hcz40_1
                        try clear hcz40_2
                        try clear hcz40_3
                        try clear hcz40_4
                        try clear hfz40_0
                        try clear hfz40_1
                        try clear hfz40_2
                        try clear hfz40_3
                        try clear hfz40_4
                        try clear hx306_0
                        try clear hx306_1
                        try clear hx306_2
                        try clear hx306_3
                        try clear hx306_4
                        try clear p306
                        try clear q306
                        obtain ⟨x19_3, x20_3, rfl, rfl, HA, HK3, HO_11, HO_16, BK286, BK307, HB⟩ := hrel
                        cases gk with
                        | zero => exact absurd HA.out (by simp [formelaw20_FloatsHigh.l1])
                        | succ k3 =>
                          have H := HA.out
                          clear HA
                          simp only [formelaw20_FloatsHigh.l1] at H
                          by_cases c41 : x20_3 < (t298.length : Int)
                          · rw [if_pos c41] at H
                            have c41b0 : decide (x20_3 < (t298.length : Int)) = true := decide_eq_true c41
                            clear c41
                            by_cases c42 : 0 ≤ x20_3
                            · rw [if_pos c42] at H
                              have c42b0 : decide (0 ≤ x20_3) = true := decide_eq_true c42
                              clear c42
                              obtain ⟨ji43, hji43⟩ : ∃ j_ : Int, (mx x19_3 ((rd_T41 t298 x20_3).f2)) = j_ := ⟨_, rfl⟩
                              replace H : (formelaw20_FloatsHigh.l1 k3 t287 (wrap64 (a1)) t298 (wrap64 (a2_2)) (wrap64 (Int.tmod x287003_1 100)) t302 ji43 (wrap64 (x20_3 + 1)) ((rd_T41 t302 (t298.length : Int)).f0) ((rd_T41 t302 (t298.length : Int)).f1) ((rd_T41 t302 (t298.length : Int)).f2) ((rd_T41 t302 (t298.length : Int)).f3) ((rd_T41 t302 (t298.length : Int)).f4)) = some r := by (rw [hji43] at H; exact H)
                              have hji43_ : (if x19_3 < ((rd_T41 t298 x20_3).f2) then ((rd_T41 t298 x20_3).f2) else x19_3) = ji43 := hji43
                              have H' := Aside0.mk H
                              clear H
                              have p308 : 0 ≤ (x20_3 : Int) := of_decide_eq_true (by (with_reducible assumption))
                              have q308 : x20_3 < (t298.length : Int) := of_decide_eq_true (by (with_reducible assumption))
                              obtain ⟨ad308, e308, hx308_0, hx308_1, hx308_2, hx308_3, hx308_4⟩ := at_T41 (Kd.R_reads' HO_11.out).2.2 x20_3 p308 q308
                              cases e308
                              replace p308 := eq_true p308
                              replace q308 := eq_true q308
                              go_wp2
                              go_roundg k3
                              case measure => have := HK1.out; have := HJ23.out; have := HK3.out; omega
                              case rel => exact ⟨(ji43), (wrap64 (x20_3 + 1)), (by rfl), (by rfl), H', ⟨by have := HK1.out; have := HJ23.out; have := HK3.out; omega⟩, ⟨by (with_reducible repeat (fail)); exact HO_11.out⟩, ⟨by (with_reducible repeat (fail)); exact HO_16.out⟩, ⟨by (with_reducible repeat (fail)); exact BK286.out⟩, ⟨by (with_reducible repeat (fail)); exact BK307.out⟩, ⟨by repeat ((with_reducible exact HB.out))⟩⟩
                            · rw [if_neg c42] at H
                              exact absurd H (by simp)
                          · rw [if_neg c41] at H
                            have c41b0 : decide (x20_3 < (t298.length : Int)) = false := decide_eq_false c41
                            clear c41
                            have HC44 := Aside0.mk H
                            clear H
                            go_upto_region 21 with (fail)
                            go_cut [149] (fun v149 wc => ∃ (kq : Nat) (x149_43 : Bool), v149 = .bool x149_43 ∧ Aside0 (formelaw20_FloatsHigh.j3 kq t287 (wrap64 (a1)) t298 (wrap64 (a2_2)) (wrap64 (Int.tmod x287003_1 100)) x19_3 x149_43 ((rd_T41 t302 (t298.length : Int)).f0) ((rd_T41 t302 (t298.length : Int)).f1) ((rd_T41 t302 (t298.length : Int)).f2) ((rd_T41 t302 (t298.length : Int)).f3) ((rd_T41 t302 (t298.length : Int)).f4) = some r) ∧ Aside0 (kq ≤ k3) ∧ Aside0 (Kd.R k41 41 wc w.heap.size (fun k_ => k_ ≠ gb307) (.slice Ao29 t298.length co29) t298) ∧ Aside0 (wc.heap[gb286]? = some (.cells #[.int .u8 a2_0, .int .u16 x287001_1, .int .u16 a2_2, .int .u16 x287003_1] 43 (0, 0))) ∧ Aside0 (wc.heap[gb307]? = some (.cells #[.int .i64 ((rd_T41 t302 (t298.length : Int)).f0), .int .i64 ((rd_T41 t302 (t298.length : Int)).f1), .int .i64 ((rd_T41 t302 (t298.length : Int)).f2), .int .i64 ((rd_T41 t302 (t298.length : Int)).f3), .int .i64 ((rd_T41 t302 (t298.length : Int)).f4)] 41 (0, 0))) ∧ Aside0 (Below w.heap.size w wc))
                            case first =>
                              have H := HC44.out
                              clear HC44
                              by_cases c45 : ((rd_T41 t302 (t298.length : Int)).f2) < x19_3
                              · rw [if_pos c45] at H
                                have c45b0 : decide (((rd_T41 t302 (t298.length : Int)).f2) < x19_3) = true := decide_eq_true c45
                                clear c45
                                (skip)
                                have H' := Aside0.mk H
                                clear H
                                have hnb46 := NB307_286.out
                                have hnc46 := NB286_307.out
                                have hcz47_0 : wr.cell? ⟨gb307, 0, none⟩ = some (.int .i64 ((rd_T41 t302 (t298.length : Int)).f0)) := (blk_cell BK307.out 0).trans rfl
                                have hcz47_1 : wr.cell? ⟨gb307, 1, none⟩ = some (.int .i64 ((rd_T41 t302 (t298.length : Int)).f1)) := (blk_cell BK307.out 1).trans rfl
                                have hcz47_2 : wr.cell? ⟨gb307, 2, none⟩ = some (.int .i64 ((rd_T41 t302 (t298.length : Int)).f2)) := (blk_cell BK307.out 2).trans rfl
                                have hcz47_3 : wr.cell? ⟨gb307, 3, none⟩ = some (.int .i64 ((rd_T41 t302 (t298.length : Int)).f3)) := (blk_cell BK307.out 3).trans rfl
                                have hcz47_4 : wr.cell? ⟨gb307, 4, none⟩ = some (.int .i64 ((rd_T41 t302 (t298.length : Int)).f4)) := (blk_cell BK307.out 4).trans rfl
                                have hfz47_0 := blk_frozen BK307.out 0
                                have hfz47_1 := blk_frozen BK307.out 1
                                have hfz47_2 := blk_frozen BK307.out 2
                                have hfz47_3 := blk_frozen BK307.out 3
                                have hfz47_4 := blk_frozen BK307.out 4
                                go_wp2
                                go_meet
                                case rel => exact ⟨_, (true), (by rfl), H', ⟨by have := HK1.out; have := HJ23.out; have := HK3.out; omega⟩, ⟨by (with_reducible repeat (fail)); exact Kd.R_mono HO_11.out (fun _ hk => hk.2)⟩, ⟨by (with_reducible repeat (fail)); exact BK286.out⟩, ⟨by (with_reducible repeat (fail)); exact BK307.out⟩, ⟨by repeat ((with_reducible exact HB.out))⟩⟩
                              · rw [if_neg c45] at H
                                have c45b0 : decide (((rd_T41 t302 (t298.length : Int)).f2) < x19_3) = false := decide_eq_false c45
                                clear c45
                                (skip)
                                by_cases c48 : ((rd_T41 t302 (t298.length : Int)).f2) > 5000
                                · rw [if_pos c48] at H
                                  have c48b0 : decide (5000 < ((rd_T41 t302 (t298.length : Int)).f2)) = true := decide_eq_true c48
                                  clear c48
                                  have H' := Aside0.mk H
                                  clear H
                                  have hnb49 := NB307_286.out
                                  have hnc49 := NB286_307.out
                                  have hcz50_0 : wr.cell? ⟨gb307, 0, none⟩ = some (.int .i64 ((rd_T41 t302 (t298.length : Int)).f0)) := (blk_cell BK307.out 0).trans rfl
                                  have hcz50_1 : wr.cell? ⟨gb307, 1, none⟩ = some (.int .i64 ((rd_T41 t302 (t298.length : Int)).f1)) := (blk_cell BK307.out 1).trans rfl
                                  have hcz50_2 : wr.cell? ⟨gb307, 2, none⟩ = some (.int .i64 ((rd_T41 t302 (t298.length : Int)).f2)) := (blk_cell BK307.out 2).trans rfl
                                  have hcz50_3 : wr.cell? ⟨gb307, 3, none⟩ = some (.int .i64 ((rd_T41 t302 (t298.length : Int)).f3)) := (blk_cell BK307.out 3).trans rfl
                                  have hcz50_4 : wr.cell? ⟨gb307, 4, none⟩ = some (.int .i64 ((rd_T41 t302 (t298.length : Int)).f4)) := (blk_cell BK307.out 4).trans rfl
                                  have hfz50_0 := blk_frozen BK307.out 0
                                  have hfz50_1 := blk_frozen BK307.out 1
                                  have hfz50_2 := blk_frozen BK307.out 2
                                  have hfz50_3 := blk_frozen BK307.out 3
                                  have hfz50_4 := blk_frozen BK307.out 4
                                  go_wp2
                                  go_meet
                                  case rel => exact ⟨_, (true), (by rfl), H', ⟨by have := HK1.out; have := HJ23.out; have := HK3.out; omega⟩, ⟨by (with_reducible repeat (fail)); exact Kd.R_mono HO_11.out (fun _ hk => hk.2)⟩, ⟨by (with_reducible repeat (fail)); exact BK286.out⟩, ⟨by (with_reducible repeat (fail)); exact BK307.out⟩, ⟨by repeat ((with_reducible exact HB.out))⟩⟩
                                · rw [if_neg c48] at H
                                  have c48b0 : decide (5000 < ((rd_T41 t302 (t298.length : Int)).f2)) = false := decide_eq_false c48
                                  clear c48
                                  by_cases c51 : 0 ≤ (t298.length : Int)
                                  · rw [if_pos c51] at H
                                    have c51b0 := eq_true c51
                                    have c51b1 : decide (0 ≤ (t298.length : Int)) = true := decide_eq_true c51
                                    clear c51
                                    by_cases c52 : (t298.length : Int) ≤ (t302.length : Int)
                                    · rw [if_pos c52] at H
                                      have c52b0 := eq_true c52
                                      have c52b1 : decide ((t298.length : Int) ≤ (t302.length : Int)) = true := decide_eq_true c52
                                      clear c52
                                      obtain ⟨y309, hy309⟩ : ∃ y_ : List (S41), y_ = (t302.take ((t298.length : Int) : Int).toNat) := ⟨_, rfl⟩
                                      replace H : ((formeref20_Same.f k3 t298 y309).bind fun t313 => (if t313 = true then ((formeref20_Free.f k3 t298 (wrap64 (a1)) ((rd_T41 t302 (t298.length : Int)).f2) (wrap64 (a2_2)) (wrap64 (Int.tmod x287003_1 100))).bind fun t314 => (formelaw20_FloatsHigh.j3 k3 t287 (wrap64 (a1)) t298 (wrap64 (a2_2)) (wrap64 (Int.tmod x287003_1 100)) x19_3 (!t314) ((rd_T41 t302 (t298.length : Int)).f0) ((rd_T41 t302 (t298.length : Int)).f1) ((rd_T41 t302 (t298.length : Int)).f2) ((rd_T41 t302 (t298.length : Int)).f3) ((rd_T41 t302 (t298.length : Int)).f4))) else (formelaw20_FloatsHigh.j3 k3 t287 (wrap64 (a1)) t298 (wrap64 (a2_2)) (wrap64 (Int.tmod x287003_1 100)) x19_3 true ((rd_T41 t302 (t298.length : Int)).f0) ((rd_T41 t302 (t298.length : Int)).f1) ((rd_T41 t302 (t298.length : Int)).f2) ((rd_T41 t302 (t298.length : Int)).f3) ((rd_T41 t302 (t298.length : Int)).f4)))) = some r := by (rw [hy309]; with_reducible exact H)
                                      have Ny309 := Aside0.mk hy309
                                      clear hy309
                                      replace H := Option.bind_eq_some_iff.mp H
                                      obtain ⟨t313, A530, H⟩ := H
                                      replace H : (if t313 = true then ((formeref20_Free.f k3 t298 (wrap64 (a1)) ((rd_T41 t302 (t298.length : Int)).f2) (wrap64 (a2_2)) (wrap64 (Int.tmod x287003_1 100))).bind fun t314 => (formelaw20_FloatsHigh.j3 k3 t287 (wrap64 (a1)) t298 (wrap64 (a2_2)) (wrap64 (Int.tmod x287003_1 100)) x19_3 (!t314) ((rd_T41 t302 (t298.length : Int)).f0) ((rd_T41 t302 (t298.length : Int)).f1) ((rd_T41 t302 (t298.length : Int)).f2) ((rd_T41 t302 (t298.length : Int)).f3) ((rd_T41 t302 (t298.length : Int)).f4))) else (formelaw20_FloatsHigh.j3 k3 t287 (wrap64 (a1)) t298 (wrap64 (a2_2)) (wrap64 (Int.tmod x287003_1 100)) x19_3 true ((rd_T41 t302 (t298.length : Int)).f0) ((rd_T41 t302 (t298.length : Int)).f1) ((rd_T41 t302 (t298.length : Int)).f2) ((rd_T41 t302 (t298.length : Int)).f3) ((rd_T41 t302 (t298.length : Int)).f4))) = some r := H
                                      have A53 := Aside0.mk A530
                                      clear A530
                                      by_cases c54 : t313 = true
                                      · subst c54
                                        have H1 : ((formeref20_Free.f k3 t298 (wrap64 (a1)) ((rd_T41 t302 (t298.length : Int)).f2) (wrap64 (a2_2)) (wrap64 (Int.tmod x287003_1 100))).bind fun t314 => (formelaw20_FloatsHigh.j3 k3 t287 (wrap64 (a1)) t298 (wrap64 (a2_2)) (wrap64 (Int.tmod x287003_1 100)) x19_3 (!t314) ((rd_T41 t302 (t298.length : Int)).f0) ((rd_T41 t302 (t298.length : Int)).f1) ((rd_T41 t302 (t298.length : Int)).f2) ((rd_T41 t302 (t298.length : Int)).f3) ((rd_T41 t302 (t298.length : Int)).f4))) = some r := by rw [if_pos rfl] at H; exact H
                                        clear H
                                        have H := H1
                                        clear H1
                                        replace H := Option.bind_eq_some_iff.mp H
                                        obtain ⟨t314, A550, H⟩ := H
                                        replace H : (formelaw20_FloatsHigh.j3 k3 t287 (wrap64 (a1)) t298 (wrap64 (a2_2)) (wrap64 (Int.tmod x287003_1 100)) x19_3 (!t314) ((rd_T41 t302 (t298.length : Int)).f0) ((rd_T41 t302 (t298.length : Int)).f1) ((rd_T41 t302 (t298.length : Int)).f2) ((rd_T41 t302 (t298.length : Int)).f3) ((rd_T41 t302 (t298.length : Int)).f4)) = some r := H
                                        have A55 := Aside0.mk A550
                                        clear A550
                                        have H' := Aside0.mk H
                                        clear H
                                        have hnb56 := NB307_286.out
                                        have hnc56 := NB286_307.out
                                        have hcz57_0 : wr.cell? ⟨gb307, 0, none⟩ = some (.int .i64 ((rd_T41 t302 (t298.length : Int)).f0)) := (blk_cell BK307.out 0).trans rfl
                                        have hcz57_1 : wr.cell? ⟨gb307, 1, none⟩ = some (.int .i64 ((rd_T41 t302 (t298.length : Int)).f1)) := (blk_cell BK307.out 1).trans rfl
                                        have hcz57_2 : wr.cell? ⟨gb307, 2, none⟩ = some (.int .i64 ((rd_T41 t302 (t298.length : Int)).f2)) := (blk_cell BK307.out 2).trans rfl
                                        have hcz57_3 : wr.cell? ⟨gb307, 3, none⟩ = some (.int .i64 ((rd_T41 t302 (t298.length : Int)).f3)) := (blk_cell BK307.out 3).trans rfl
                                        have hcz57_4 : wr.cell? ⟨gb307, 4, none⟩ = some (.int .i64 ((rd_T41 t302 (t298.length : Int)).f4)) := (blk_cell BK307.out 4).trans rfl
                                        have hfz57_0 := blk_frozen BK307.out 0
                                        have hfz57_1 := blk_frozen BK307.out 1
                                        have hfz57_2 := blk_frozen BK307.out 2
                                        have hfz57_3 := blk_frozen BK307.out 3
                                        have hfz57_4 := blk_frozen BK307.out 4
                                        have q58 : ((t298.length : Int) : Int) ≤ ((t302.length : Int) : Int) := of_decide_eq_true (by (with_reducible assumption))
                                        obtain ⟨i058, hi058, _, hsz58, _⟩ := info_parts info41
                                        have hroom58 : t302.length ≤ co37 := (Kd.R_reads' HO_16.out).2.1
                                        have hC58 : Kd.C k41 _ (some ad306) t302.length t302 := (Kd.R_reads' HO_16.out).2.2
                                        have hcut58 := cut_to (P := Try.prog) 22 41 .i64 Try.underlying22 hi058 (some ad306) t302.length co37 (t298.length : Int) (of_decide_eq_true (by (with_reducible assumption))) q58 hroom58
                                        have hr58 := Kd.C_take (m := ((t298.length : Int) : Int).toNat) hC58 (by omega)
                                        have hy58 : y309.length = ((t298.length : Int) : Int).toNat := (by rw [Ny309.out, List.length_take]; omega)
                                        rw [← Ny309.out] at hr58
                                        rw [← hy58] at hcut58
                                        have HR312 := Aside0.mk hr58
                                        have HC312 := Aside0.mk (show y309.length ≤ co37 from by omega)
                                        clear hr58 hC58 hroom58 hi058 hsz58
                                        have KY58 := Aside0.mk hy58
                                        clear hy58
                                        have KL58 := Aside0.mk (show ((t298.length : Int) : Int).toNat ≤ t302.length from by omega)
                                        replace q58 := eq_true q58
                                        go_wp2_with (first | (go_at_call 18; (with_reducible refine (formeref20_Same.calls k3 _ _ t298 _ _ y309 true _ ?side1 ?side2 ?side3 ?side4 A53.out).mono ?_); (case side1 => repeat (exact (Kd.R_reads' HO_11.out).2.2)); (case side2 => exact (Kd.R_reads' HO_11.out).2.1); (case side3 => repeat (exact (by repeat ((with_reducible exact HR312.out))))); (case side4 => exact HC312.out); rintro e w' ⟨rfl, ⟨nd, rfl⟩⟩) | (go_at_call 20; (with_reducible refine (formeref20_Free.calls k3 _ _ t298 (wrap64 (a1)) ((rd_T41 t302 (t298.length : Int)).f2) (wrap64 (a2_2)) (wrap64 (Int.tmod x287003_1 100)) t314 _ ?side1 ?side2 A55.out).mono ?_); (case side1 => repeat (exact (Kd.R_reads' HO_11.out).2.2)); (case side2 => exact (Kd.R_reads' HO_11.out).2.1); rintro e w59 ⟨rfl, hb⟩; have n0_ := Aside0.mk (Kd.R_below (by (with_reducible repeat (apply Kd.R_drewN)); exact HO_11.out) hb); have n1_ := Aside0.mk (Kd.R_below (by (with_reducible repeat (apply Kd.R_drewN)); exact HO_16.out) hb); have n2_ := Aside0.mk (blk_below (g := gb286) (o := .cells #[.int .u8 a2_0, .int .u16 x287001_1, .int .u16 a2_2, .int .u16 x287003_1] 43 (0, 0)) (by (with_reducible repeat (refine blk_drewN ?_ _)); exact BK286.out) hb); have n3_ := Aside0.mk (blk_below (g := gb307) (o := .cells #[.int .i64 ((rd_T41 t302 (t298.length : Int)).f0), .int .i64 ((rd_T41 t302 (t298.length : Int)).f1), .int .i64 ((rd_T41 t302 (t298.length : Int)).f2), .int .i64 ((rd_T41 t302 (t298.length : Int)).f3), .int .i64 ((rd_T41 t302 (t298.length : Int)).f4)] 41 (0, 0)) (by (with_reducible repeat (refine blk_drewN ?_ _)); exact BK307.out) hb); have n4_ := Aside0.mk (Kd.C_below (by repeat (exact HR312.out)) hb); have n5_ := Aside0.mk (below_step (by repeat ((with_reducible first | exact HB.out | apply pw_below_drewN))) hb); clear HO_11; clear HO_16; clear BK286; clear BK307; clear HR312; clear HB; have HO_11 := n0_; have HO_16 := n1_; have BK286 := n2_; have BK307 := n3_; have HR312 := n4_; have HB := n5_; clear n0_ n1_ n2_ n3_ n4_ n5_; (try clear hb)))
                                        go_meet
                                        case rel => exact ⟨_, (!t314), (by rfl), H', ⟨by have := HK1.out; have := HJ23.out; have := HK3.out; omega⟩, ⟨by (with_reducible repeat (fail)); exact Kd.R_mono HO_11.out (fun _ hk => hk.2)⟩, ⟨by (with_reducible repeat (fail)); exact BK286.out⟩, ⟨by (with_reducible repeat (fail)); exact BK307.out⟩, ⟨by repeat ((with_reducible exact HB.out))⟩⟩
                                      · replace c54 := Bool.eq_false_iff.mpr c54
                                        subst c54
                                        have H1 : (formelaw20_FloatsHigh.j3 k3 t287 (wrap64 (a1)) t298 (wrap64 (a2_2)) (wrap64 (Int.tmod x287003_1 100)) x19_3 true ((rd_T41 t302 (t298.length : Int)).f0) ((rd_T41 t302 (t298.length : Int)).f1) ((rd_T41 t302 (t298.length : Int)).f2) ((rd_T41 t302 (t298.length : Int)).f3) ((rd_T41 t302 (t298.length : Int)).f4)) = some r := by rw [if_neg (show ¬ (false = true) by decide)] at H; exact H
                                        clear H
                                        have H := H1
                                        clear H1
                                        have H' := Aside0.mk H
                                        clear H
                                        have hnb60 := NB307_286.out
                                        have hnc60 := NB286_307.out
                                        have hcz61_0 : wr.cell? ⟨gb307, 0, none⟩ = some (.int .i64 ((rd_T41 t302 (t298.length : Int)).f0)) := (blk_cell BK307.out 0).trans rfl
                                        have hcz61_1 : wr.cell? ⟨gb307, 1, none⟩ = some (.int .i64 ((rd_T41 t302 (t298.length : Int)).f1)) := (blk_cell BK307.out 1).trans rfl
                                        have hcz61_2 : wr.cell? ⟨gb307, 2, none⟩ = some (.int .i64 ((rd_T41 t302 (t298.length : Int)).f2)) := (blk_cell BK307.out 2).trans rfl
                                        have hcz61_3 : wr.cell? ⟨gb307, 3, none⟩ = some (.int .i64 ((rd_T41 t302 (t298.length : Int)).f3)) := (blk_cell BK307.out 3).trans rfl
                                        have hcz61_4 : wr.cell? ⟨gb307, 4, none⟩ = some (.int .i64 ((rd_T41 t302 (t298.length : Int)).f4)) := (blk_cell BK307.out 4).trans rfl
                                        have hfz61_0 := blk_frozen BK307.out 0
                                        have hfz61_1 := blk_frozen BK307.out 1
                                        have hfz61_2 := blk_frozen BK307.out 2
                                        have hfz61_3 := blk_frozen BK307.out 3
                                        have hfz61_4 := blk_frozen BK307.out 4
                                        have q62 : ((t298.length : Int) : Int) ≤ ((t302.length : Int) : Int) := of_decide_eq_true (by (with_reducible assumption))
                                        obtain ⟨i062, hi062, _, hsz62, _⟩ := info_parts info41
                                        have hroom62 : t302.length ≤ co37 := (Kd.R_reads' HO_16.out).2.1
                                        have hC62 : Kd.C k41 _ (some ad306) t302.length t302 := (Kd.R_reads' HO_16.out).2.2
                                        have hcut62 := cut_to (P := Try.prog) 22 41 .i64 Try.underlying22 hi062 (some ad306) t302.length co37 (t298.length : Int) (of_decide_eq_true (by (with_reducible assumption))) q62 hroom62
                                        have hr62 := Kd.C_take (m := ((t298.length : Int) : Int).toNat) hC62 (by omega)
                                        have hy62 : y309.length = ((t298.length : Int) : Int).toNat := (by rw [Ny309.out, List.length_take]; omega)
                                        rw [← Ny309.out] at hr62
                                        rw [← hy62] at hcut62
                                        have HR312 := Aside0.mk hr62
                                        have HC312 := Aside0.mk (show y309.length ≤ co37 from by omega)
                                        clear hr62 hC62 hroom62 hi062 hsz62
                                        have KY62 := Aside0.mk hy62
                                        clear hy62
                                        have KL62 := Aside0.mk (show ((t298.length : Int) : Int).toNat ≤ t302.length from by omega)
                                        replace q62 := eq_true q62
                                        go_wp2_with ((go_at_call 18; (with_reducible refine (formeref20_Same.calls k3 _ _ t298 _ _ y309 false _ ?side1 ?side2 ?side3 ?side4 A53.out).mono ?_); (case side1 => repeat (exact (Kd.R_reads' HO_11.out).2.2)); (case side2 => exact (Kd.R_reads' HO_11.out).2.1); (case side3 => repeat (exact (by repeat ((with_reducible exact HR312.out))))); (case side4 => exact HC312.out); rintro e w' ⟨rfl, ⟨nd, rfl⟩⟩))
                                        go_meet
                                        case rel => exact ⟨_, (true), (by rfl), H', ⟨by have := HK1.out; have := HJ23.out; have := HK3.out; omega⟩, ⟨by (with_reducible repeat (apply Kd.R_drewN)); exact Kd.R_mono HO_11.out (fun _ hk => hk.2)⟩, ⟨by (with_reducible repeat (refine blk_drewN ?_ _)); exact BK286.out⟩, ⟨by (with_reducible repeat (refine blk_drewN ?_ _)); exact BK307.out⟩, ⟨by repeat ((with_reducible first | exact HB.out | apply pw_below_drewN))⟩⟩
                                    · rw [if_neg c52] at H
                                      exact absurd H (by simp)
                                  · rw [if_neg c51] at H
                                    exact absurd H (by simp)
                            case rest =>
                              clear HC44
                              try clear c41b0
                              obtain ⟨kq, x149_43, rfl, HA, HJ43, HO_11, BK286, BK307, HB⟩ := hcut
                              cases kq with
                              | zero => exact absurd HA.out (by simp [formelaw20_FloatsHigh.j3])
                              | succ kj43 =>
                                have H := HA.out
                                clear HA
                                simp only [formelaw20_FloatsHigh.j3] at H
                                by_cases c63 : x149_43 = true
                                · subst c63
                                  have H1 : (some false) = some r := by rw [if_pos rfl] at H; exact H
                                  clear H
                                  have H := H1
                                  clear H1
                                  obtain rfl := Option.some.inj H
                                  go_wp2
                                  go_ret
                                  exact ⟨by rfl, by repeat ((with_reducible exact HB.out))⟩
                                · replace c63 := Bool.eq_false_iff.mpr c63
                                  subst c63
                                  have H1 : (formelaw20_FloatsHigh.l2 kj43 t287 (wrap64 (a1)) t298 (wrap64 (a2_2)) (wrap64 (Int.tmod x287003_1 100)) x19_3 ((rd_T41 t302 (t298.length : Int)).f0) ((rd_T41 t302 (t298.length : Int)).f1) ((rd_T41 t302 (t298.length : Int)).f2) ((rd_T41 t302 (t298.length : Int)).f3) ((rd_T41 t302 (t298.length : Int)).f4)) = some r := by rw [if_neg (show ¬ (false = true) by decide)] at H; exact H
                                  clear H
                                  have H := H1
                                  clear H1
                                  have H' := Aside0.mk H
                                  clear H
                                  go_wp2
                                  go_loopg [21] kj43 (fun kq v21 w' => ∃ (x21_5 : Int), v21 = .int .i64 x21_5 ∧ Aside0 (formelaw20_FloatsHigh.l2 kq t287 (wrap64 (a1)) t298 (wrap64 (a2_2)) (wrap64 (Int.tmod x287003_1 100)) x21_5 ((rd_T41 t302 (t298.length : Int)).f0) ((rd_T41 t302 (t298.length : Int)).f1) ((rd_T41 t302 (t298.length : Int)).f2) ((rd_T41 t302 (t298.length : Int)).f3) ((rd_T41 t302 (t298.length : Int)).f4) = some r) ∧ Aside0 (kq ≤ kj43) ∧ Aside0 (Kd.R k41 41 w' w.heap.size (fun k_ => k_ ≠ gb307) (.slice Ao29 t298.length co29) t298) ∧ Aside0 (w'.heap[gb286]? = some (.cells #[.int .u8 a2_0, .int .u16 x287001_1, .int .u16 a2_2, .int .u16 x287003_1] 43 (0, 0))) ∧ Aside0 (w'.heap[gb307]? = some (.cells #[.int .i64 ((rd_T41 t302 (t298.length : Int)).f0), .int .i64 ((rd_T41 t302 (t298.length : Int)).f1), .int .i64 ((rd_T41 t302 (t298.length : Int)).f2), .int .i64 ((rd_T41 t302 (t298.length : Int)).f3), .int .i64 ((rd_T41 t302 (t298.length : Int)).f4)] 41 (0, 0))) ∧ Aside0 (Below w.heap.size w w'))
                                  case atStart => exact ⟨(x19_3), (by rfl), H', ⟨Nat.le_refl _⟩, ⟨by (with_reducible repeat (fail)); exact HO_11.out⟩, ⟨by (with_reducible repeat (fail)); exact BK286.out⟩, ⟨by (with_reducible repeat (fail)); exact BK307.out⟩, ⟨by repeat ((with_reducible exact HB.out))⟩⟩
                                  case round =>
                                    clear H'
                                    obtain ⟨x21_5, rfl, HA, HK5, HO_11, BK286, BK307, HB⟩ := hrel
                                    cases gk with
                                    | zero => exact absurd HA.out (by simp [formelaw20_FloatsHigh.l2])
                                    | succ k5 =>
                                      have H := HA.out
                                      clear HA
                                      simp only [formelaw20_FloatsHigh.l2] at H
                                      by_cases c64 : x21_5 < ((rd_T41 t302 (t298.length : Int)).f2)
                                      · rw [if_pos c64] at H
                                        have c64b0 : decide (x21_5 < ((rd_T41 t302 (t298.length : Int)).f2)) = true := decide_eq_true c64
                                        clear c64
                                        replace H := Option.bind_eq_some_iff.mp H
                                        obtain ⟨t315, A650, H⟩ := H
                                        replace H : (if t315 = true then (some false) else (formelaw20_FloatsHigh.l2 k5 t287 (wrap64 (a1)) t298 (wrap64 (a2_2)) (wrap64 (Int.tmod x287003_1 100)) (wrap64 (x21_5 + 1)) ((rd_T41 t302 (t298.length : Int)).f0) ((rd_T41 t302 (t298.length : Int)).f1) ((rd_T41 t302 (t298.length : Int)).f2) ((rd_T41 t302 (t298.length : Int)).f3) ((rd_T41 t302 (t298.length : Int)).f4))) = some r := H
                                        have A65 := Aside0.mk A650
                                        clear A650
                                        by_cases c66 : t315 = true
                                        · subst c66
                                          have H1 : (some false) = some r := by rw [if_pos rfl] at H; exact H
                                          clear H
                                          have H := H1
                                          clear H1
                                          obtain rfl := Option.some.inj H
                                          have hnb67 := NB307_286.out
                                          have hnc67 := NB286_307.out
                                          have hcz68_0 : wr.cell? ⟨gb307, 0, none⟩ = some (.int .i64 ((rd_T41 t302 (t298.length : Int)).f0)) := (blk_cell BK307.out 0).trans rfl
                                          have hcz68_1 : wr.cell? ⟨gb307, 1, none⟩ = some (.int .i64 ((rd_T41 t302 (t298.length : Int)).f1)) := (blk_cell BK307.out 1).trans rfl
                                          have hcz68_2 : wr.cell? ⟨gb307, 2, none⟩ = some (.int .i64 ((rd_T41 t302 (t298.length : Int)).f2)) := (blk_cell BK307.out 2).trans rfl
                                          have hcz68_3 : wr.cell? ⟨gb307, 3, none⟩ = some (.int .i64 ((rd_T41 t302 (t298.length : Int)).f3)) := (blk_cell BK307.out 3).trans rfl
                                          have hcz68_4 : wr.cell? ⟨gb307, 4, none⟩ = some (.int .i64 ((rd_T41 t302 (t298.length : Int)).f4)) := (blk_cell BK307.out 4).trans rfl
                                          have hfz68_0 := blk_frozen BK307.out 0
                                          have hfz68_1 := blk_frozen BK307.out 1
                                          have hfz68_2 := blk_frozen BK307.out 2
                                          have hfz68_3 := blk_frozen BK307.out 3
                                          have hfz68_4 := blk_frozen BK307.out 4
                                          go_wp2_with (((with_reducible refine gate_callee (f := 20) rfl ?_); refine goesL_ (some 162) rfl rfl Try.func20 (by kernel_rfl) rfl #[.slice Ao29 t298.length co29, .int .i64 (wrap64 (a1)), .int .i64 x21_5, .int .i64 (wrap64 (a2_2)), .int .i64 (wrap64 (Int.tmod x287003_1 100))] rfl (by (try simp only [List.map_toArray, List.map_cons, List.map_nil]); rfl) ?_; (with_reducible refine (formeref20_Free.calls k5 _ _ t298 (wrap64 (a1)) x21_5 (wrap64 (a2_2)) (wrap64 (Int.tmod x287003_1 100)) true _ ?side1 ?side2 A65.out).mono ?_); (case side1 => repeat (exact (Kd.R_reads' HO_11.out).2.2)); (case side2 => exact (Kd.R_reads' HO_11.out).2.1); rintro e w69 ⟨rfl, hb⟩; refine ⟨_, rfl, ?_⟩; have n0_ := Aside0.mk (Kd.R_below (by (with_reducible repeat (fail)); exact HO_11.out) hb); have n1_ := Aside0.mk (blk_below (g := gb286) (o := .cells #[.int .u8 a2_0, .int .u16 x287001_1, .int .u16 a2_2, .int .u16 x287003_1] 43 (0, 0)) (by (with_reducible repeat (fail)); exact BK286.out) hb); have n2_ := Aside0.mk (blk_below (g := gb307) (o := .cells #[.int .i64 ((rd_T41 t302 (t298.length : Int)).f0), .int .i64 ((rd_T41 t302 (t298.length : Int)).f1), .int .i64 ((rd_T41 t302 (t298.length : Int)).f2), .int .i64 ((rd_T41 t302 (t298.length : Int)).f3), .int .i64 ((rd_T41 t302 (t298.length : Int)).f4)] 41 (0, 0)) (by (with_reducible repeat (fail)); exact BK307.out) hb); have n3_ := Aside0.mk (below_step (by repeat ((with_reducible exact HB.out))) hb); clear HO_11; clear BK286; clear BK307; clear HB; have HO_11 := n0_; have BK286 := n1_; have BK307 := n2_; have HB := n3_; clear n0_ n1_ n2_ n3_; (try clear hb)))
                                          go_ret
                                          exact ⟨by rfl, by repeat ((with_reducible exact HB.out))⟩
                                        · replace c66 := Bool.eq_false_iff.mpr c66
                                          subst c66
                                          have H1 : (formelaw20_FloatsHigh.l2 k5 t287 (wrap64 (a1)) t298 (wrap64 (a2_2)) (wrap64 (Int.tmod x287003_1 100)) (wrap64 (x21_5 + 1)) ((rd_T41 t302 (t298.length : Int)).f0) ((rd_T41 t302 (t298.length : Int)).f1) ((rd_T41 t302 (t298.length : Int)).f2) ((rd_T41 t302 (t298.length : Int)).f3) ((rd_T41 t302 (t298.length : Int)).f4)) = some r := by rw [if_neg (show ¬ (false = true) by decide)] at H; exact H
                                          clear H
                                          have H := H1
                                          clear H1
                                          have H' := Aside0.mk H
                                          clear H
                                          have hnb70 := NB307_286.out
                                          have hnc70 := NB286_307.out
                                          have hcz71_0 : wr.cell? ⟨gb307, 0, none⟩ = some (.int .i64 ((rd_T41 t302 (t298.length : Int)).f0)) := (blk_cell BK307.out 0).trans rfl
                                          have hcz71_1 : wr.cell? ⟨gb307, 1, none⟩ = some (.int .i64 ((rd_T41 t302 (t298.length : Int)).f1)) := (blk_cell BK307.out 1).trans rfl
                                          have hcz71_2 : wr.cell? ⟨gb307, 2, none⟩ = some (.int .i64 ((rd_T41 t302 (t298.length : Int)).f2)) := (blk_cell BK307.out 2).trans rfl
                                          have hcz71_3 : wr.cell? ⟨gb307, 3, none⟩ = some (.int .i64 ((rd_T41 t302 (t298.length : Int)).f3)) := (blk_cell BK307.out 3).trans rfl
                                          have hcz71_4 : wr.cell? ⟨gb307, 4, none⟩ = some (.int .i64 ((rd_T41 t302 (t298.length : Int)).f4)) := (blk_cell BK307.out 4).trans rfl
                                          have hfz71_0 := blk_frozen BK307.out 0
                                          have hfz71_1 := blk_frozen BK307.out 1
                                          have hfz71_2 := blk_frozen BK307.out 2
                                          have hfz71_3 := blk_frozen BK307.out 3
                                          have hfz71_4 := blk_frozen BK307.out 4
                                          go_wp2_with (((with_reducible refine gate_callee (f := 20) rfl ?_); refine goesL_ (some 162) rfl rfl Try.func20 (by kernel_rfl) rfl #[.slice Ao29 t298.length co29, .int .i64 (wrap64 (a1)), .int .i64 x21_5, .int .i64 (wrap64 (a2_2)), .int .i64 (wrap64 (Int.tmod x287003_1 100))] rfl (by (try simp only [List.map_toArray, List.map_cons, List.map_nil]); rfl) ?_; (with_reducible refine (formeref20_Free.calls k5 _ _ t298 (wrap64 (a1)) x21_5 (wrap64 (a2_2)) (wrap64 (Int.tmod x287003_1 100)) false _ ?side1 ?side2 A65.out).mono ?_); (case side1 => repeat (exact (Kd.R_reads' HO_11.out).2.2)); (case side2 => exact (Kd.R_reads' HO_11.out).2.1); rintro e w72 ⟨rfl, hb⟩; refine ⟨_, rfl, ?_⟩; have n0_ := Aside0.mk (Kd.R_below (by (with_reducible repeat (fail)); exact HO_11.out) hb); have n1_ := Aside0.mk (blk_below (g := gb286) (o := .cells #[.int .u8 a2_0, .int .u16 x287001_1, .int .u16 a2_2, .int .u16 x287003_1] 43 (0, 0)) (by (with_reducible repeat (fail)); exact BK286.out) hb); have n2_ := Aside0.mk (blk_below (g := gb307) (o := .cells #[.int .i64 ((rd_T41 t302 (t298.length : Int)).f0), .int .i64 ((rd_T41 t302 (t298.length : Int)).f1), .int .i64 ((rd_T41 t302 (t298.length : Int)).f2), .int .i64 ((rd_T41 t302 (t298.length : Int)).f3), .int .i64 ((rd_T41 t302 (t298.length : Int)).f4)] 41 (0, 0)) (by (with_reducible repeat (fail)); exact BK307.out) hb); have n3_ := Aside0.mk (below_step (by repeat ((with_reducible exact HB.out))) hb); clear HO_11; clear BK286; clear BK307; clear HB; have HO_11 := n0_; have BK286 := n1_; have BK307 := n2_; have HB := n3_; clear n0_ n1_ n2_ n3_; (try clear hb)))
                                          go_roundg k5
                                          case measure => have := HK1.out; have := HJ23.out; have := HK3.out; have := HJ43.out; have := HK5.out; omega
                                          case rel => exact ⟨(wrap64 (x21_5 + 1)), (by rfl), H', ⟨by have := HK1.out; have := HJ23.out; have := HK3.out; have := HJ43.out; have := HK5.out; omega⟩, ⟨by (with_reducible repeat (fail)); exact HO_11.out⟩, ⟨by (with_reducible repeat (fail)); exact BK286.out⟩, ⟨by (with_reducible repeat (fail)); exact BK307.out⟩, ⟨by repeat ((with_reducible exact HB.out))⟩⟩
                                      · rw [if_neg c64] at H
                                        have c64b0 : decide (x21_5 < ((rd_T41 t302 (t298.length : Int)).f2)) = false := decide_eq_false c64
                                        clear c64
                                        obtain rfl := Option.some.inj H
                                        have hnb73 := NB307_286.out
                                        have hnc73 := NB286_307.out
                                        have hcz74_0 : wr.cell? ⟨gb307, 0, none⟩ = some (.int .i64 ((rd_T41 t302 (t298.length : Int)).f0)) := (blk_cell BK307.out 0).trans rfl
                                        have hcz74_1 : wr.cell? ⟨gb307, 1, none⟩ = some (.int .i64 ((rd_T41 t302 (t298.length : Int)).f1)) := (blk_cell BK307.out 1).trans rfl
                                        have hcz74_2 : wr.cell? ⟨gb307, 2, none⟩ = some (.int .i64 ((rd_T41 t302 (t298.length : Int)).f2)) := (blk_cell BK307.out 2).trans rfl
                                        have hcz74_3 : wr.cell? ⟨gb307, 3, none⟩ = some (.int .i64 ((rd_T41 t302 (t298.length : Int)).f3)) := (blk_cell BK307.out 3).trans rfl
                                        have hcz74_4 : wr.cell? ⟨gb307, 4, none⟩ = some (.int .i64 ((rd_T41 t302 (t298.length : Int)).f4)) := (blk_cell BK307.out 4).trans rfl
                                        have hfz74_0 := blk_frozen BK307.out 0
                                        have hfz74_1 := blk_frozen BK307.out 1
                                        have hfz74_2 := blk_frozen BK307.out 2
                                        have hfz74_3 := blk_frozen BK307.out 3
                                        have hfz74_4 := blk_frozen BK307.out 4
                                        go_wp2
                                        go_ret
                                        exact ⟨by rfl, by repeat ((with_reducible exact HB.out))⟩
                    · rw [if_neg c36] at H
                      exact absurd H (by simp)
                  · rw [if_neg c35] at H
                    exact absurd H (by simp)
    · rw [if_neg c8] at H
      exact absurd H (by simp)

end Go.Proofs.Ytffmflmpiekcfab.PAll
