/- Printed by a program of this session (wip/gprint.py) over the translation. Not trusted: Lean checks it. -/
import Derived.Test.YtffmflmpiekcfabPAllx0
import Derived.Test.YtffmflmpiekcfabPAllx13
import Derived.Test.YtffmflmpiekcfabPAllx14
import Derived.Test.YtffmflmpiekcfabPAllx15
namespace Go.Proofs.Ytffmflmpiekcfab.PAll
open Go.RowKit Go.Proofs.YtffmflmpiekcfabW.PrintWords Go.Proofs.YtffmflmpiekcfabW.PrintLast Go.Proofs.YtffmflmpiekcfabW.PrintMore
attribute [local go_sem] max2_int min2_int max_two min_two max_three min_three max_four min_four   -- for this text's walks alone
set_option linter.unusedVariables false
set_option linter.unusedSimpArgs false

/-! ### formeref20_Place: function 17 -/
mutual
def formeref20_Place.j0 : Nat → List (S41) → Int → Int → Int → Int → Int → Bool → Option ((List (S41)) × Int)
  | 0, _, _, _, _, _, _, _ => none
  | k + 1, x0, x1, x2, x3, x4, x5, x58 => if x58 = true then (some (([] : List (S41)), 1)) else (if (x0.length : Int) ≥ 200 then (some (([] : List (S41)), 2)) else (formeref20_Place.l0 k x0 x1 x2 x4 x5 x3 0))
def formeref20_Place.l0 : Nat → List (S41) → Int → Int → Int → Int → Int → Int → Option ((List (S41)) × Int)
  | 0, _, _, _, _, _, _, _ => none
  | k + 1, x0, x1, x2, x4, x5, x18, x19 => if x19 < (x0.length : Int) then (if 0 ≤ x19 then (formeref20_Place.l0 k x0 x1 x2 x4 x5 (mx x18 ((rd_T41 x0 x19).f2)) (wrap64 (x19 + 1))) else (none)) else ((formeref20_Free.f k x0 x1 x18 x4 x5).bind fun t201 => (formeref20_Place.l1 k x0 x1 x2 x4 x5 x18 t201))
def formeref20_Place.l1 : Nat → List (S41) → Int → Int → Int → Int → Int → Bool → Option ((List (S41)) × Int)
  | 0, _, _, _, _, _, _, _ => none
  | k + 1, x0, x1, x2, x4, x5, x20, x21 => if x21 = true then (if x20 > 1000000000 then (some (([] : List (S41)), 3)) else ((formeref20_room.f k x0 x1 x20 x5).bind fun bt207 => (if x2 = 2 then (formeref20_Place.j4 k x0 x2 x4 x5 x20 (mx 0 (wrap64 (bt207.2 - x4)))) else (formeref20_Place.j4 k x0 x2 x4 x5 x20 bt207.1)))) else (formeref20_Place.l2 k x0 x1 x2 x4 x5 x20 2000000000 0)
def formeref20_Place.j4 : Nat → List (S41) → Int → Int → Int → Int → Int → Option ((List (S41)) × Int)
  | 0, _, _, _, _, _, _ => none
  | k + 1, x0, x2, x4, x5, x20, x25 => formeref20_Place.l3 k x0 x2 x4 x5 x20 x25 ([] : List (S41)) 0
def formeref20_Place.l3 : Nat → List (S41) → Int → Int → Int → Int → Int → List (S41) → Int → Option ((List (S41)) × Int)
  | 0, _, _, _, _, _, _, _, _ => none
  | k + 1, x0, x2, x4, x5, x20, x25, x26, x27 => if x27 < (x0.length : Int) then (if 0 ≤ x27 then (if x26.length < 3518437208883 then (formeref20_Place.l3 k x0 x2 x4 x5 x20 x25 (x26 ++ [(⟨(rd_T41 x0 x27).f0, (rd_T41 x0 x27).f1, (rd_T41 x0 x27).f2, (rd_T41 x0 x27).f3, (rd_T41 x0 x27).f4⟩ : S41)]) (wrap64 (x27 + 1))) else (none)) else (none)) else (if x26.length < 3518437208883 then (some ((x26 ++ [(⟨x2, x25, x20, x4, x5⟩ : S41)]), 0)) else (none))
def formeref20_Place.l2 : Nat → List (S41) → Int → Int → Int → Int → Int → Int → Int → Option ((List (S41)) × Int)
  | 0, _, _, _, _, _, _, _, _ => none
  | k + 1, x0, x1, x2, x4, x5, x20, x22, x23 => if x23 < (x0.length : Int) then (if 0 ≤ x23 then (if (wrap64 (((rd_T41 x0 x23).f2) + ((rd_T41 x0 x23).f4))) > x20 then (formeref20_Place.l2 k x0 x1 x2 x4 x5 x20 (mn x22 (wrap64 (((rd_T41 x0 x23).f2) + ((rd_T41 x0 x23).f4)))) (wrap64 (x23 + 1))) else (formeref20_Place.l2 k x0 x1 x2 x4 x5 x20 x22 (wrap64 (x23 + 1)))) else (none)) else ((formeref20_Free.f k x0 x1 x22 x4 x5).bind fun t206 => (formeref20_Place.l1 k x0 x1 x2 x4 x5 x22 t206))
end
def formeref20_Place.f (k : Nat) (l0 : List (S41)) (a1 : Int) (a2 : Int) (a3 : Int) (a4 : Int) (a5 : Int) : Option ((List (S41)) × Int) := (formeref20_Valid.f k l0 a1).bind fun t196 => ((formeref20_high.f a3).bind fun t197 => ((formeref20_size.f a4).bind fun t198 => ((formeref20_size.f a5).bind fun t199 => (if t196 = true then (if t197 = true then (if t198 = true then (if t199 = true then (if a2 < 1 then (formeref20_Place.j0 k l0 a1 a2 a3 a4 a5 true) else (formeref20_Place.j0 k l0 a1 a2 a3 a4 a5 (decide (a2 > 2)))) else (formeref20_Place.j0 k l0 a1 a2 a3 a4 a5 true)) else (formeref20_Place.j0 k l0 a1 a2 a3 a4 a5 true)) else (formeref20_Place.j0 k l0 a1 a2 a3 a4 a5 true)) else (formeref20_Place.j0 k l0 a1 a2 a3 a4 a5 true)))))
theorem formeref20_Place.mono_l : ∀ k, (∀ y0 y1 y2 y3 y4 y5 y6, LeO (formeref20_Place.j0 k y0 y1 y2 y3 y4 y5 y6) (formeref20_Place.j0 (k + 1) y0 y1 y2 y3 y4 y5 y6)) ∧ (∀ y0 y1 y2 y3 y4 y5 y6, LeO (formeref20_Place.l0 k y0 y1 y2 y3 y4 y5 y6) (formeref20_Place.l0 (k + 1) y0 y1 y2 y3 y4 y5 y6)) ∧ (∀ y0 y1 y2 y3 y4 y5 y6, LeO (formeref20_Place.l1 k y0 y1 y2 y3 y4 y5 y6) (formeref20_Place.l1 (k + 1) y0 y1 y2 y3 y4 y5 y6)) ∧ (∀ y0 y1 y2 y3 y4 y5, LeO (formeref20_Place.j4 k y0 y1 y2 y3 y4 y5) (formeref20_Place.j4 (k + 1) y0 y1 y2 y3 y4 y5)) ∧ (∀ y0 y1 y2 y3 y4 y5 y6 y7, LeO (formeref20_Place.l3 k y0 y1 y2 y3 y4 y5 y6 y7) (formeref20_Place.l3 (k + 1) y0 y1 y2 y3 y4 y5 y6 y7)) ∧ (∀ y0 y1 y2 y3 y4 y5 y6 y7, LeO (formeref20_Place.l2 k y0 y1 y2 y3 y4 y5 y6 y7) (formeref20_Place.l2 (k + 1) y0 y1 y2 y3 y4 y5 y6 y7))
  | 0 => ⟨fun _ _ _ _ _ _ _ r h => by simp [formeref20_Place.j0] at h, fun _ _ _ _ _ _ _ r h => by simp [formeref20_Place.l0] at h, fun _ _ _ _ _ _ _ r h => by simp [formeref20_Place.l1] at h, fun _ _ _ _ _ _ r h => by simp [formeref20_Place.j4] at h, fun _ _ _ _ _ _ _ _ r h => by simp [formeref20_Place.l3] at h, fun _ _ _ _ _ _ _ _ r h => by simp [formeref20_Place.l2] at h⟩
  | k + 1 => by
    obtain ⟨ih0, ih1, ih2, ih3, ih4, ih5⟩ := formeref20_Place.mono_l k
    refine ⟨?_, ?_, ?_, ?_, ?_, ?_⟩
    · intro y0 y1 y2 y3 y4 y5 y6
      unfold formeref20_Place.j0
      repeat' first
      | (with_reducible exact ih0 _ _ _ _ _ _ _)
      | (with_reducible exact ih1 _ _ _ _ _ _ _)
      | (with_reducible exact ih2 _ _ _ _ _ _ _)
      | (with_reducible exact ih3 _ _ _ _ _ _)
      | (with_reducible exact ih4 _ _ _ _ _ _ _ _)
      | (with_reducible exact ih5 _ _ _ _ _ _ _ _)
      | (with_reducible exact formeref20_Free.mono _ _ _ _ _ _)
      | (with_reducible exact formeref20_Valid.mono _ _ _)
      | (with_reducible exact formeref20_room.mono _ _ _ _ _)
      | (with_reducible exact LeO.refl _)
      | (with_reducible exact LeO.none _)
      | (with_reducible refine LeO.ite ?_ ?_)
      | (with_reducible refine LeO.bind ?_ (fun _ => ?_))
      | exact ih0 _ _ _ _ _ _ _
      | exact ih1 _ _ _ _ _ _ _
      | exact ih2 _ _ _ _ _ _ _
      | exact ih3 _ _ _ _ _ _
      | exact ih4 _ _ _ _ _ _ _ _
      | exact ih5 _ _ _ _ _ _ _ _
      | exact formeref20_Free.mono _ _ _ _ _ _
      | exact formeref20_Valid.mono _ _ _
      | exact formeref20_room.mono _ _ _ _ _
      | exact LeO.none _
      | refine LeO.ite ?_ ?_
      | refine LeO.bind ?_ (fun _ => ?_)
    · intro y0 y1 y2 y3 y4 y5 y6
      unfold formeref20_Place.l0
      repeat' first
      | (with_reducible exact ih0 _ _ _ _ _ _ _)
      | (with_reducible exact ih1 _ _ _ _ _ _ _)
      | (with_reducible exact ih2 _ _ _ _ _ _ _)
      | (with_reducible exact ih3 _ _ _ _ _ _)
      | (with_reducible exact ih4 _ _ _ _ _ _ _ _)
      | (with_reducible exact ih5 _ _ _ _ _ _ _ _)
      | (with_reducible exact formeref20_Free.mono _ _ _ _ _ _)
      | (with_reducible exact formeref20_Valid.mono _ _ _)
      | (with_reducible exact formeref20_room.mono _ _ _ _ _)
      | (with_reducible exact LeO.refl _)
      | (with_reducible exact LeO.none _)
      | (with_reducible refine LeO.ite ?_ ?_)
      | (with_reducible refine LeO.bind ?_ (fun _ => ?_))
      | exact ih0 _ _ _ _ _ _ _
      | exact ih1 _ _ _ _ _ _ _
      | exact ih2 _ _ _ _ _ _ _
      | exact ih3 _ _ _ _ _ _
      | exact ih4 _ _ _ _ _ _ _ _
      | exact ih5 _ _ _ _ _ _ _ _
      | exact formeref20_Free.mono _ _ _ _ _ _
      | exact formeref20_Valid.mono _ _ _
      | exact formeref20_room.mono _ _ _ _ _
      | exact LeO.none _
      | refine LeO.ite ?_ ?_
      | refine LeO.bind ?_ (fun _ => ?_)
    · intro y0 y1 y2 y3 y4 y5 y6
      unfold formeref20_Place.l1
      repeat' first
      | (with_reducible exact ih0 _ _ _ _ _ _ _)
      | (with_reducible exact ih1 _ _ _ _ _ _ _)
      | (with_reducible exact ih2 _ _ _ _ _ _ _)
      | (with_reducible exact ih3 _ _ _ _ _ _)
      | (with_reducible exact ih4 _ _ _ _ _ _ _ _)
      | (with_reducible exact ih5 _ _ _ _ _ _ _ _)
      | (with_reducible exact formeref20_Free.mono _ _ _ _ _ _)
      | (with_reducible exact formeref20_Valid.mono _ _ _)
      | (with_reducible exact formeref20_room.mono _ _ _ _ _)
      | (with_reducible exact LeO.refl _)
      | (with_reducible exact LeO.none _)
      | (with_reducible refine LeO.ite ?_ ?_)
      | (with_reducible refine LeO.bind ?_ (fun _ => ?_))
      | exact ih0 _ _ _ _ _ _ _
      | exact ih1 _ _ _ _ _ _ _
      | exact ih2 _ _ _ _ _ _ _
      | exact ih3 _ _ _ _ _ _
      | exact ih4 _ _ _ _ _ _ _ _
      | exact ih5 _ _ _ _ _ _ _ _
      | exact formeref20_Free.mono _ _ _ _ _ _
      | exact formeref20_Valid.mono _ _ _
      | exact formeref20_room.mono _ _ _ _ _
      | exact LeO.none _
      | refine LeO.ite ?_ ?_
      | refine LeO.bind ?_ (fun _ => ?_)
    · intro y0 y1 y2 y3 y4 y5
      unfold formeref20_Place.j4
      repeat' first
      | (with_reducible exact ih0 _ _ _ _ _ _ _)
      | (with_reducible exact ih1 _ _ _ _ _ _ _)
      | (with_reducible exact ih2 _ _ _ _ _ _ _)
      | (with_reducible exact ih3 _ _ _ _ _ _)
      | (with_reducible exact ih4 _ _ _ _ _ _ _ _)
      | (with_reducible exact ih5 _ _ _ _ _ _ _ _)
      | (with_reducible exact formeref20_Free.mono _ _ _ _ _ _)
      | (with_reducible exact formeref20_Valid.mono _ _ _)
      | (with_reducible exact formeref20_room.mono _ _ _ _ _)
      | (with_reducible exact LeO.refl _)
      | (with_reducible exact LeO.none _)
      | (with_reducible refine LeO.ite ?_ ?_)
      | (with_reducible refine LeO.bind ?_ (fun _ => ?_))
      | exact ih0 _ _ _ _ _ _ _
      | exact ih1 _ _ _ _ _ _ _
      | exact ih2 _ _ _ _ _ _ _
      | exact ih3 _ _ _ _ _ _
      | exact ih4 _ _ _ _ _ _ _ _
      | exact ih5 _ _ _ _ _ _ _ _
      | exact formeref20_Free.mono _ _ _ _ _ _
      | exact formeref20_Valid.mono _ _ _
      | exact formeref20_room.mono _ _ _ _ _
      | exact LeO.none _
      | refine LeO.ite ?_ ?_
      | refine LeO.bind ?_ (fun _ => ?_)
    · intro y0 y1 y2 y3 y4 y5 y6 y7
      unfold formeref20_Place.l3
      repeat' first
      | (with_reducible exact ih0 _ _ _ _ _ _ _)
      | (with_reducible exact ih1 _ _ _ _ _ _ _)
      | (with_reducible exact ih2 _ _ _ _ _ _ _)
      | (with_reducible exact ih3 _ _ _ _ _ _)
      | (with_reducible exact ih4 _ _ _ _ _ _ _ _)
      | (with_reducible exact ih5 _ _ _ _ _ _ _ _)
      | (with_reducible exact formeref20_Free.mono _ _ _ _ _ _)
      | (with_reducible exact formeref20_Valid.mono _ _ _)
      | (with_reducible exact formeref20_room.mono _ _ _ _ _)
      | (with_reducible exact LeO.refl _)
      | (with_reducible exact LeO.none _)
      | (with_reducible refine LeO.ite ?_ ?_)
      | (with_reducible refine LeO.bind ?_ (fun _ => ?_))
      | exact ih0 _ _ _ _ _ _ _
      | exact ih1 _ _ _ _ _ _ _
      | exact ih2 _ _ _ _ _ _ _
      | exact ih3 _ _ _ _ _ _
      | exact ih4 _ _ _ _ _ _ _ _
      | exact ih5 _ _ _ _ _ _ _ _
      | exact formeref20_Free.mono _ _ _ _ _ _
      | exact formeref20_Valid.mono _ _ _
      | exact formeref20_room.mono _ _ _ _ _
      | exact LeO.none _
      | refine LeO.ite ?_ ?_
      | refine LeO.bind ?_ (fun _ => ?_)
    · intro y0 y1 y2 y3 y4 y5 y6 y7
      unfold formeref20_Place.l2
      repeat' first
      | (with_reducible exact ih0 _ _ _ _ _ _ _)
      | (with_reducible exact ih1 _ _ _ _ _ _ _)
      | (with_reducible exact ih2 _ _ _ _ _ _ _)
      | (with_reducible exact ih3 _ _ _ _ _ _)
      | (with_reducible exact ih4 _ _ _ _ _ _ _ _)
      | (with_reducible exact ih5 _ _ _ _ _ _ _ _)
      | (with_reducible exact formeref20_Free.mono _ _ _ _ _ _)
      | (with_reducible exact formeref20_Valid.mono _ _ _)
      | (with_reducible exact formeref20_room.mono _ _ _ _ _)
      | (with_reducible exact LeO.refl _)
      | (with_reducible exact LeO.none _)
      | (with_reducible refine LeO.ite ?_ ?_)
      | (with_reducible refine LeO.bind ?_ (fun _ => ?_))
      | exact ih0 _ _ _ _ _ _ _
      | exact ih1 _ _ _ _ _ _ _
      | exact ih2 _ _ _ _ _ _ _
      | exact ih3 _ _ _ _ _ _
      | exact ih4 _ _ _ _ _ _ _ _
      | exact ih5 _ _ _ _ _ _ _ _
      | exact formeref20_Free.mono _ _ _ _ _ _
      | exact formeref20_Valid.mono _ _ _
      | exact formeref20_room.mono _ _ _ _ _
      | exact LeO.none _
      | refine LeO.ite ?_ ?_
      | refine LeO.bind ?_ (fun _ => ?_)
theorem formeref20_Place.mono : ∀ a0 a1 a2 a3 a4 a5 k, LeO (formeref20_Place.f k a0 a1 a2 a3 a4 a5) (formeref20_Place.f (k + 1) a0 a1 a2 a3 a4 a5) := by
  intro a0 a1 a2 a3 a4 a5 k
  obtain ⟨ih0, ih1, ih2, ih3, ih4, ih5⟩ := formeref20_Place.mono_l k
  unfold formeref20_Place.f
  repeat' first
      | (with_reducible exact ih0 _ _ _ _ _ _ _)
      | (with_reducible exact ih1 _ _ _ _ _ _ _)
      | (with_reducible exact ih2 _ _ _ _ _ _ _)
      | (with_reducible exact ih3 _ _ _ _ _ _)
      | (with_reducible exact ih4 _ _ _ _ _ _ _ _)
      | (with_reducible exact ih5 _ _ _ _ _ _ _ _)
      | (with_reducible exact formeref20_Free.mono _ _ _ _ _ _)
      | (with_reducible exact formeref20_Valid.mono _ _ _)
      | (with_reducible exact formeref20_room.mono _ _ _ _ _)
      | (with_reducible exact LeO.refl _)
      | (with_reducible exact LeO.none _)
      | (with_reducible refine LeO.ite ?_ ?_)
      | (with_reducible refine LeO.bind ?_ (fun _ => ?_))
      | exact ih0 _ _ _ _ _ _ _
      | exact ih1 _ _ _ _ _ _ _
      | exact ih2 _ _ _ _ _ _ _
      | exact ih3 _ _ _ _ _ _
      | exact ih4 _ _ _ _ _ _ _ _
      | exact ih5 _ _ _ _ _ _ _ _
      | exact formeref20_Free.mono _ _ _ _ _ _
      | exact formeref20_Valid.mono _ _ _
      | exact formeref20_room.mono _ _ _ _ _
      | exact LeO.none _
      | refine LeO.ite ?_ ?_
      | refine LeO.bind ?_ (fun _ => ?_)
set_option maxHeartbeats 8000000 in
set_option maxRecDepth 100000 in
theorem formeref20_Place.calls (k : Nat) (A0 : Option Addr) (c0 : Nat) (l0 : List (S41)) (a1 : Int) (a2 : Int) (a3 : Int) (a4 : Int) (a5 : Int) (r1 : List (S41)) (r2 : Int) (w : World) (hr0 : Kd.C k41 w A0 l0.length l0) (hc0 : l0.length ≤ c0) (h : formeref20_Place.f k l0 a1 a2 a3 a4 a5 = some (r1, r2)) :
    Calls Try.prog 17 #[.slice A0 l0.length c0, .int .i64 a1, .int .i64 a2, .int .i64 a3, .int .i64 a4, .int .i64 a5] w fun e w' => ∃ v0_ : Value, e = .returned (.tuple #[v0_, .int .i64 r2]) ∧ Kd.R k41 41 w' w.heap.size (fun _ => True) v0_ r1 ∧ Below w.heap.size w w' := by
  have hu25 := Try.underlying25
  have hu41 := Try.underlying41
  have HR0 := Aside0.mk hr0
  have HC0 := Aside0.mk hc0
  clear hr0 hc0
  have HB := Aside0.mk (Below.refl w.heap.size w)
  have H : ((formeref20_Valid.f k l0 a1).bind fun t196 => ((formeref20_high.f a3).bind fun t197 => ((formeref20_size.f a4).bind fun t198 => ((formeref20_size.f a5).bind fun t199 => (if t196 = true then (if t197 = true then (if t198 = true then (if t199 = true then (if a2 < 1 then (formeref20_Place.j0 k l0 a1 a2 a3 a4 a5 true) else (formeref20_Place.j0 k l0 a1 a2 a3 a4 a5 (decide (a2 > 2)))) else (formeref20_Place.j0 k l0 a1 a2 a3 a4 a5 true)) else (formeref20_Place.j0 k l0 a1 a2 a3 a4 a5 true)) else (formeref20_Place.j0 k l0 a1 a2 a3 a4 a5 true)) else (formeref20_Place.j0 k l0 a1 a2 a3 a4 a5 true)))))) = some (r1, r2) := h
  clear h
  replace H := Option.bind_eq_some_iff.mp H
  obtain ⟨t196, A70, H⟩ := H
  replace H : ((formeref20_high.f a3).bind fun t197 => ((formeref20_size.f a4).bind fun t198 => ((formeref20_size.f a5).bind fun t199 => (if t196 = true then (if t197 = true then (if t198 = true then (if t199 = true then (if a2 < 1 then (formeref20_Place.j0 k l0 a1 a2 a3 a4 a5 true) else (formeref20_Place.j0 k l0 a1 a2 a3 a4 a5 (decide (a2 > 2)))) else (formeref20_Place.j0 k l0 a1 a2 a3 a4 a5 true)) else (formeref20_Place.j0 k l0 a1 a2 a3 a4 a5 true)) else (formeref20_Place.j0 k l0 a1 a2 a3 a4 a5 true)) else (formeref20_Place.j0 k l0 a1 a2 a3 a4 a5 true))))) = some (r1, r2) := H
  have A7 := Aside0.mk A70
  clear A70
  replace H := Option.bind_eq_some_iff.mp H
  obtain ⟨t197, A80, H⟩ := H
  replace H : ((formeref20_size.f a4).bind fun t198 => ((formeref20_size.f a5).bind fun t199 => (if t196 = true then (if t197 = true then (if t198 = true then (if t199 = true then (if a2 < 1 then (formeref20_Place.j0 k l0 a1 a2 a3 a4 a5 true) else (formeref20_Place.j0 k l0 a1 a2 a3 a4 a5 (decide (a2 > 2)))) else (formeref20_Place.j0 k l0 a1 a2 a3 a4 a5 true)) else (formeref20_Place.j0 k l0 a1 a2 a3 a4 a5 true)) else (formeref20_Place.j0 k l0 a1 a2 a3 a4 a5 true)) else (formeref20_Place.j0 k l0 a1 a2 a3 a4 a5 true)))) = some (r1, r2) := H
  have A8 := Aside0.mk A80
  clear A80
  replace H := Option.bind_eq_some_iff.mp H
  obtain ⟨t198, A90, H⟩ := H
  replace H : ((formeref20_size.f a5).bind fun t199 => (if t196 = true then (if t197 = true then (if t198 = true then (if t199 = true then (if a2 < 1 then (formeref20_Place.j0 k l0 a1 a2 a3 a4 a5 true) else (formeref20_Place.j0 k l0 a1 a2 a3 a4 a5 (decide (a2 > 2)))) else (formeref20_Place.j0 k l0 a1 a2 a3 a4 a5 true)) else (formeref20_Place.j0 k l0 a1 a2 a3 a4 a5 true)) else (formeref20_Place.j0 k l0 a1 a2 a3 a4 a5 true)) else (formeref20_Place.j0 k l0 a1 a2 a3 a4 a5 true))) = some (r1, r2) := H
  have A9 := Aside0.mk A90
  clear A90
  replace H := Option.bind_eq_some_iff.mp H
  obtain ⟨t199, A100, H⟩ := H
  replace H : (if t196 = true then (if t197 = true then (if t198 = true then (if t199 = true then (if a2 < 1 then (formeref20_Place.j0 k l0 a1 a2 a3 a4 a5 true) else (formeref20_Place.j0 k l0 a1 a2 a3 a4 a5 (decide (a2 > 2)))) else (formeref20_Place.j0 k l0 a1 a2 a3 a4 a5 true)) else (formeref20_Place.j0 k l0 a1 a2 a3 a4 a5 true)) else (formeref20_Place.j0 k l0 a1 a2 a3 a4 a5 true)) else (formeref20_Place.j0 k l0 a1 a2 a3 a4 a5 true)) = some (r1, r2) := H
  have A10 := Aside0.mk A100
  clear A100
  have HC11 := Aside0.mk H
  clear H
  go_enter Try.func17, Try.ntmps17
  go_upto_region 5 with (first | (go_at_call 13; (with_reducible refine (formeref20_Valid.calls k _ _ l0 a1 t196 _ ?side1 ?side2 A7.out).mono ?_); (case side1 => repeat (exact HR0.out)); (case side2 => exact HC0.out); rintro e w' ⟨rfl, ⟨nd, rfl⟩⟩; (try fail)) | (go_at_call 24; (with_reducible refine (formeref20_high.calls a3 t197 _ A8.out).mono ?_); rintro e w' ⟨rfl, ⟨nd, rfl⟩⟩; (try fail)) | (go_at_call 25; (with_reducible refine (formeref20_size.calls a4 t198 _ A9.out).mono ?_); rintro e w' ⟨rfl, ⟨nd, rfl⟩⟩; (try fail)) | (go_at_call 25; (with_reducible refine (formeref20_size.calls a5 t199 _ A10.out).mono ?_); rintro e w' ⟨rfl, ⟨nd, rfl⟩⟩; (try fail)))
  repeat (go_quiet (fail); go_upto_region 5 with (fail))
  (try simp only [Act.put, List.setIfInBounds_toArray, List.set_cons_zero, List.set_cons_succ])
  go_cut [58] (fun v58 wc => ∃ (kq : Nat) (x58_10 : Bool), v58 = .bool x58_10 ∧ Aside0 (formeref20_Place.j0 kq l0 a1 a2 a3 a4 a5 x58_10 = some (r1, r2)) ∧ Aside0 (kq ≤ k) ∧ Aside0 (Below w.heap.size w wc))
  case first =>
    have H := HC11.out
    clear HC11
    by_cases c12 : t196 = true
    · subst c12
      have H1 : (if t197 = true then (if t198 = true then (if t199 = true then (if a2 < 1 then (formeref20_Place.j0 k l0 a1 a2 a3 a4 a5 true) else (formeref20_Place.j0 k l0 a1 a2 a3 a4 a5 (decide (a2 > 2)))) else (formeref20_Place.j0 k l0 a1 a2 a3 a4 a5 true)) else (formeref20_Place.j0 k l0 a1 a2 a3 a4 a5 true)) else (formeref20_Place.j0 k l0 a1 a2 a3 a4 a5 true)) = some (r1, r2) := by rw [if_pos rfl] at H; exact H
      clear H
      have H := H1
      clear H1
      by_cases c13 : t197 = true
      · subst c13
        have H1 : (if t198 = true then (if t199 = true then (if a2 < 1 then (formeref20_Place.j0 k l0 a1 a2 a3 a4 a5 true) else (formeref20_Place.j0 k l0 a1 a2 a3 a4 a5 (decide (a2 > 2)))) else (formeref20_Place.j0 k l0 a1 a2 a3 a4 a5 true)) else (formeref20_Place.j0 k l0 a1 a2 a3 a4 a5 true)) = some (r1, r2) := by rw [if_pos rfl] at H; exact H
        clear H
        have H := H1
        clear H1
        by_cases c14 : t198 = true
        · subst c14
          have H1 : (if t199 = true then (if a2 < 1 then (formeref20_Place.j0 k l0 a1 a2 a3 a4 a5 true) else (formeref20_Place.j0 k l0 a1 a2 a3 a4 a5 (decide (a2 > 2)))) else (formeref20_Place.j0 k l0 a1 a2 a3 a4 a5 true)) = some (r1, r2) := by rw [if_pos rfl] at H; exact H
          clear H
          have H := H1
          clear H1
          by_cases c15 : t199 = true
          · subst c15
            have H1 : (if a2 < 1 then (formeref20_Place.j0 k l0 a1 a2 a3 a4 a5 true) else (formeref20_Place.j0 k l0 a1 a2 a3 a4 a5 (decide (a2 > 2)))) = some (r1, r2) := by rw [if_pos rfl] at H; exact H
            clear H
            have H := H1
            clear H1
            by_cases c16 : a2 < 1
            · rw [if_pos c16] at H
              have c16b0 : decide (a2 < 1) = true := decide_eq_true c16
              clear c16
              (skip)
              have H' := Aside0.mk H
              clear H
              go_wp2
              repeat (go_quiet (fail); try go_wp2)
              go_meet
              case rel => exact ⟨_, (true), (by rfl), H', ⟨by omega⟩, ⟨by repeat ((with_reducible first | exact HB.out | apply pw_below_drewN))⟩⟩
            · rw [if_neg c16] at H
              have c16b0 : decide (a2 < 1) = false := decide_eq_false c16
              clear c16
              (skip)
              have H' := Aside0.mk H
              clear H
              go_wp2
              repeat (go_quiet (fail); try go_wp2)
              go_meet
              case rel => exact ⟨_, (decide (a2 > 2)), (by rfl), H', ⟨by omega⟩, ⟨by repeat ((with_reducible first | exact HB.out | apply pw_below_drewN))⟩⟩
          · replace c15 := Bool.eq_false_iff.mpr c15
            subst c15
            have H1 : (formeref20_Place.j0 k l0 a1 a2 a3 a4 a5 true) = some (r1, r2) := by rw [if_neg (show ¬ (false = true) by decide)] at H; exact H
            clear H
            have H := H1
            clear H1
            have H' := Aside0.mk H
            clear H
            go_wp2
            repeat (go_quiet (fail); try go_wp2)
            go_meet
            case rel => exact ⟨_, (true), (by rfl), H', ⟨by omega⟩, ⟨by repeat ((with_reducible first | exact HB.out | apply pw_below_drewN))⟩⟩
        · replace c14 := Bool.eq_false_iff.mpr c14
          subst c14
          have H1 : (formeref20_Place.j0 k l0 a1 a2 a3 a4 a5 true) = some (r1, r2) := by rw [if_neg (show ¬ (false = true) by decide)] at H; exact H
          clear H
          have H := H1
          clear H1
          have H' := Aside0.mk H
          clear H
          go_wp2
          repeat (go_quiet (fail); try go_wp2)
          go_meet
          case rel => exact ⟨_, (true), (by rfl), H', ⟨by omega⟩, ⟨by repeat ((with_reducible first | exact HB.out | apply pw_below_drewN))⟩⟩
      · replace c13 := Bool.eq_false_iff.mpr c13
        subst c13
        have H1 : (formeref20_Place.j0 k l0 a1 a2 a3 a4 a5 true) = some (r1, r2) := by rw [if_neg (show ¬ (false = true) by decide)] at H; exact H
        clear H
        have H := H1
        clear H1
        have H' := Aside0.mk H
        clear H
        go_wp2
        repeat (go_quiet (fail); try go_wp2)
        go_meet
        case rel => exact ⟨_, (true), (by rfl), H', ⟨by omega⟩, ⟨by repeat ((with_reducible first | exact HB.out | apply pw_below_drewN))⟩⟩
    · replace c12 := Bool.eq_false_iff.mpr c12
      subst c12
      have H1 : (formeref20_Place.j0 k l0 a1 a2 a3 a4 a5 true) = some (r1, r2) := by rw [if_neg (show ¬ (false = true) by decide)] at H; exact H
      clear H
      have H := H1
      clear H1
      have H' := Aside0.mk H
      clear H
      go_wp2
      repeat (go_quiet (fail); try go_wp2)
      go_meet
      case rel => exact ⟨_, (true), (by rfl), H', ⟨by omega⟩, ⟨by repeat ((with_reducible first | exact HB.out | apply pw_below_drewN))⟩⟩
  case rest =>
    clear HC11
    obtain ⟨kq, x58_10, rfl, HA, HJ10, HB⟩ := hcut
    cases kq with
    | zero => exact absurd HA.out (by simp [formeref20_Place.j0])
    | succ kj10 =>
      have H := HA.out
      clear HA
      simp only [formeref20_Place.j0] at H
      by_cases c17 : x58_10 = true
      · subst c17
        have H1 : (some (([] : List (S41)), 1)) = some (r1, r2) := by rw [if_pos rfl] at H; exact H
        clear H
        have H := H1
        clear H1
        simp only [Option.some.injEq, Prod.mk.injEq] at H
        obtain ⟨rfl, rfl⟩ := H
        go_wp2
        repeat (go_quiet (fail); try go_wp2)
        go_ret2
        exact ⟨_, by rfl, by exact Kd.R_nil _ _ _ _ _, by repeat ((with_reducible exact HB.out))⟩
      · replace c17 := Bool.eq_false_iff.mpr c17
        subst c17
        have H1 : (if (l0.length : Int) ≥ 200 then (some (([] : List (S41)), 2)) else (formeref20_Place.l0 kj10 l0 a1 a2 a4 a5 a3 0)) = some (r1, r2) := by rw [if_neg (show ¬ (false = true) by decide)] at H; exact H
        clear H
        have H := H1
        clear H1
        by_cases c18 : (l0.length : Int) ≥ 200
        · rw [if_pos c18] at H
          have c18b0 : decide (200 ≤ (l0.length : Int)) = true := decide_eq_true c18
          have c18b1 : decide (200 ≤ l0.length) = true := decide_eq_true (by omega)
          clear c18
          simp only [Option.some.injEq, Prod.mk.injEq] at H
          obtain ⟨rfl, rfl⟩ := H
          go_wp2
          repeat (go_quiet (fail); try go_wp2)
          go_ret2
          exact ⟨_, by rfl, by exact Kd.R_nil _ _ _ _ _, by repeat ((with_reducible exact HB.out))⟩
        · rw [if_neg c18] at H
          have c18b0 : decide (200 ≤ (l0.length : Int)) = false := decide_eq_false c18
          have c18b1 : decide (200 ≤ l0.length) = false := decide_eq_false (by omega)
          clear c18
          have H' := Aside0.mk H
          clear H
          go_wp2
          repeat (go_quiet (fail); try go_wp2)
          go_loopg [18, 19] kj10 (fun kq v18 v19 w' => ∃ (x18_2 : Int) (x19_2 : Int), v18 = .int .i64 x18_2 ∧ v19 = .int .i64 x19_2 ∧ Aside0 (formeref20_Place.l0 kq l0 a1 a2 a4 a5 x18_2 x19_2 = some (r1, r2)) ∧ Aside0 (kq ≤ kj10) ∧ Aside0 (Below w.heap.size w w'))
          case atStart => exact ⟨(a3), (0), (by rfl), (by rfl), H', ⟨Nat.le_refl _⟩, ⟨by repeat ((with_reducible exact HB.out))⟩⟩
          case round =>
            clear H'
            try clear c18b0
            try clear c18b1
            obtain ⟨x18_2, x19_2, rfl, rfl, HA, HK2, HB⟩ := hrel
            cases gk with
            | zero => exact absurd HA.out (by simp [formeref20_Place.l0])
            | succ k2 =>
              have H := HA.out
              clear HA
              simp only [formeref20_Place.l0] at H
              by_cases c19 : x19_2 < (l0.length : Int)
              · rw [if_pos c19] at H
                have c19b0 : decide (x19_2 < (l0.length : Int)) = true := decide_eq_true c19
                clear c19
                by_cases c20 : 0 ≤ x19_2
                · rw [if_pos c20] at H
                  have c20b0 : decide (0 ≤ x19_2) = true := decide_eq_true c20
                  clear c20
                  obtain ⟨ji21, hji21⟩ : ∃ j_ : Int, (mx x18_2 ((rd_T41 l0 x19_2).f2)) = j_ := ⟨_, rfl⟩
                  replace H : (formeref20_Place.l0 k2 l0 a1 a2 a4 a5 ji21 (wrap64 (x19_2 + 1))) = some (r1, r2) := by (rw [hji21] at H; exact H)
                  have hji21_ : (if x18_2 < ((rd_T41 l0 x19_2).f2) then ((rd_T41 l0 x19_2).f2) else x18_2) = ji21 := hji21
                  have H' := Aside0.mk H
                  clear H
                  have p200 : 0 ≤ (x19_2 : Int) := of_decide_eq_true (by (with_reducible assumption))
                  have q200 : x19_2 < (l0.length : Int) := of_decide_eq_true (by (with_reducible assumption))
                  obtain ⟨ad200, e200, hx200_0, hx200_1, hx200_2, hx200_3, hx200_4⟩ := at_T41 HR0.out x19_2 p200 q200
                  cases e200
                  replace hx200_0 := (HB.out.cell (World.block_lt_of_cell? w _ hx200_0)).trans hx200_0
                  replace hx200_1 := (HB.out.cell (World.block_lt_of_cell? w _ hx200_1)).trans hx200_1
                  replace hx200_2 := (HB.out.cell (World.block_lt_of_cell? w _ hx200_2)).trans hx200_2
                  replace hx200_3 := (HB.out.cell (World.block_lt_of_cell? w _ hx200_3)).trans hx200_3
                  replace hx200_4 := (HB.out.cell (World.block_lt_of_cell? w _ hx200_4)).trans hx200_4
                  replace p200 := eq_true p200
                  replace q200 := eq_true q200
                  go_wp2
                  repeat (go_quiet (fail); try go_wp2)
                  go_roundg k2
                  case measure => have := HJ10.out; have := HK2.out; omega
                  case rel => exact ⟨(ji21), (wrap64 (x19_2 + 1)), (by rfl), (by rfl), H', ⟨by have := HJ10.out; have := HK2.out; omega⟩, ⟨by repeat ((with_reducible exact HB.out))⟩⟩
                · rw [if_neg c20] at H
                  exact absurd H (by simp)
              · rw [if_neg c19] at H
                have c19b0 : decide (x19_2 < (l0.length : Int)) = false := decide_eq_false c19
                clear c19
                replace H := Option.bind_eq_some_iff.mp H
                obtain ⟨t201, A220, H⟩ := H
                replace H : (formeref20_Place.l1 k2 l0 a1 a2 a4 a5 x18_2 t201) = some (r1, r2) := H
                have A22 := Aside0.mk A220
                clear A220
                have H' := Aside0.mk H
                clear H
                go_wp2_with ((go_at_call 20; (with_reducible refine (formeref20_Free.calls k2 _ _ l0 a1 x18_2 a4 a5 t201 _ ?side1 ?side2 A22.out).mono ?_); (case side1 => repeat (exact (Kd.C_below HR0.out HB.out))); (case side2 => exact HC0.out); rintro e w23 ⟨rfl, hb⟩; have n0_ := Aside0.mk (below_step (by repeat ((with_reducible exact HB.out))) hb); clear HB; have HB := n0_; clear n0_; (try clear hb)))
                repeat (go_quiet (fail); try go_wp2_with (fail))
                go_loopg [20, 21] k2 (fun kq v20 v21 w' => ∃ (x20_3 : Int) (x21_3 : Bool), v20 = .int .i64 x20_3 ∧ v21 = .bool x21_3 ∧ Aside0 (formeref20_Place.l1 kq l0 a1 a2 a4 a5 x20_3 x21_3 = some (r1, r2)) ∧ Aside0 (kq ≤ k2) ∧ Aside0 (Below w.heap.size w w'))
                case atStart => exact ⟨(x18_2), (t201), (by rfl), (by rfl), H', ⟨Nat.le_refl _⟩, ⟨by repeat ((with_reducible exact HB.out))⟩⟩
                case round =>
                  clear H'
                  try clear c19b0
                  obtain ⟨x20_3, x21_3, rfl, rfl, HA, HK3, HB⟩ := hrel
                  cases gk with
                  | zero => exact absurd HA.out (by simp [formeref20_Place.l1])
                  | succ k3 =>
                    have H := HA.out
                    clear HA
                    simp only [formeref20_Place.l1] at H
                    by_cases c24 : x21_3 = true
                    · subst c24
                      have H1 : (if x20_3 > 1000000000 then (some (([] : List (S41)), 3)) else ((formeref20_room.f k3 l0 a1 x20_3 a5).bind fun bt207 => (if a2 = 2 then (formeref20_Place.j4 k3 l0 a2 a4 a5 x20_3 (mx 0 (wrap64 (bt207.2 - a4)))) else (formeref20_Place.j4 k3 l0 a2 a4 a5 x20_3 bt207.1)))) = some (r1, r2) := by rw [if_pos rfl] at H; exact H
                      clear H
                      have H := H1
                      clear H1
                      by_cases c25 : x20_3 > 1000000000
                      · rw [if_pos c25] at H
                        have c25b0 : decide (1000000000 < x20_3) = true := decide_eq_true c25
                        clear c25
                        simp only [Option.some.injEq, Prod.mk.injEq] at H
                        obtain ⟨rfl, rfl⟩ := H
                        go_wp2
                        repeat (go_quiet (fail); try go_wp2)
                        go_ret2
                        exact ⟨_, by rfl, by exact Kd.R_nil _ _ _ _ _, by repeat ((with_reducible exact HB.out))⟩
                      · rw [if_neg c25] at H
                        have c25b0 : decide (1000000000 < x20_3) = false := decide_eq_false c25
                        clear c25
                        replace H := Option.bind_eq_some_iff.mp H
                        obtain ⟨⟨t207, t208⟩, A260, H⟩ := H
                        replace H : (if a2 = 2 then (formeref20_Place.j4 k3 l0 a2 a4 a5 x20_3 (mx 0 (wrap64 (t208 - a4)))) else (formeref20_Place.j4 k3 l0 a2 a4 a5 x20_3 t207)) = some (r1, r2) := H
                        have A26 := Aside0.mk A260
                        clear A260
                        have HC27 := Aside0.mk H
                        clear H
                        go_upto_if 134 with (first | (go_at_call 26; (with_reducible refine (formeref20_room.calls k3 _ _ l0 a1 x20_3 a5 t207 t208 _ ?side1 ?side2 A26.out).mono ?_); (case side1 => repeat (exact (Kd.C_below HR0.out HB.out))); (case side2 => exact HC0.out); rintro e w28 ⟨rfl, hb⟩; have n0_ := Aside0.mk (below_step (by repeat ((with_reducible exact HB.out))) hb); clear HB; have HB := n0_; clear n0_; (try clear hb)) | ((with_reducible refine gate_dst (N := 24) rfl ?_); refine box_event ?hg (N := 24) ?hd (cs := #[.int .i64 0, .int .i64 0]) (t := 25) ?hr ?_; (case hd => rfl); (case hg => rfl); (case hr => (go_simp; done)); intro gb209 hg w29 hbox hb; have n0_ := Aside0.mk (below_step (by repeat ((with_reducible exact HB.out))) hb); have n1_ := Aside0.mk (hbox); have n2_ := Aside0.mk ((by rw [hg]; exact (below_size (by repeat ((with_reducible exact HB.out)))) : w.heap.size ≤ gb209)); have n3_ := Aside0.mk ((by rw [hg]; exact (below_size (by repeat ((with_reducible exact HB.out)))) : w.heap.size ≤ gb209)); clear HB; have HB := n0_; have BK209 := n1_; have GW209 := n2_; have GE209 := n3_; clear n0_ n1_ n2_ n3_; clear hb hbox hg; have hcz30_0 : w29.cell? ⟨gb209, 0, none⟩ = some (.int .i64 0) := (blk_cell BK209.out 0).trans rfl; have hcz30_1 : w29.cell? ⟨gb209, 1, none⟩ = some (.int .i64 0) := (blk_cell BK209.out 1).trans rfl; have hfz30_0 := blk_frozen BK209.out 0; have hfz30_1 := blk_frozen BK209.out 1))
                        repeat (go_quiet (fail); go_upto_if 134 with (fail))
                        (try simp only [Act.put, List.setIfInBounds_toArray, List.set_cons_zero, List.set_cons_succ])
                        go_cut [25] (fun v25 wc => ∃ (kq : Nat) (x25_26 : Int), v25 = .int .i64 x25_26 ∧ Aside0 (formeref20_Place.j4 kq l0 a2 a4 a5 x20_3 x25_26 = some (r1, r2)) ∧ Aside0 (kq ≤ k3) ∧ Aside0 (wc.heap[gb209]? = some (.cells #[.int .i64 t207, .int .i64 t208] 25 (0, 0))) ∧ Aside0 (Below w.heap.size w wc))
                        case first =>
                          have H := HC27.out
                          clear HC27
                          by_cases c31 : a2 = 2
                          · rw [if_pos c31] at H
                            have c31b0 : (a2 == 2) = true := beq_iff_eq.mpr c31
                            have c31b1 : (a2 != 2) = false := bne_eq_false_iff_eq.mpr c31
                            clear c31
                            (rw [c31b0])
                            obtain ⟨ji32, hji32⟩ : ∃ j_ : Int, (mx 0 (wrap64 (t208 - a4))) = j_ := ⟨_, rfl⟩
                            replace H : (formeref20_Place.j4 k3 l0 a2 a4 a5 x20_3 ji32) = some (r1, r2) := by (rw [hji32] at H; exact H)
                            have hji32_ : (if 0 < (wrap64 (t208 - a4)) then (wrap64 (t208 - a4)) else 0) = ji32 := hji32
                            have H' := Aside0.mk H
                            clear H
                            have hcz33_0 : w29.cell? ⟨gb209, 0, none⟩ = some (.int .i64 0) := (blk_cell BK209.out 0).trans rfl
                            have hcz33_1 : w29.cell? ⟨gb209, 1, none⟩ = some (.int .i64 0) := (blk_cell BK209.out 1).trans rfl
                            have hfz33_0 := blk_frozen BK209.out 0
                            have hfz33_1 := blk_frozen BK209.out 1
                            go_wp2
                            repeat (go_quiet (fail); try go_wp2)
                            go_meet
                            case rel => exact ⟨_, (ji32), (by rfl), H', ⟨by have := HJ10.out; have := HK2.out; have := HK3.out; omega⟩, ⟨by (with_reducible repeat (fail)); refine blk_put (cs := #[.int .i64 t207, .int .i64 0]) ?_ 1 _ rfl; (with_reducible repeat (fail)); refine blk_put (cs := #[.int .i64 0, .int .i64 0]) ?_ 0 _ rfl; (with_reducible repeat (fail)); exact BK209.out⟩, ⟨by repeat ((with_reducible first | exact HB.out | refine below_set ?_ GE209.out))⟩⟩
                          · rw [if_neg c31] at H
                            have c31b0 : (a2 == 2) = false := beq_eq_false_iff_ne.mpr c31
                            have c31b1 : (a2 != 2) = true := bne_iff_ne.mpr c31
                            (rw [c31b0])
                            have H' := Aside0.mk H
                            clear H
                            go_wp2
                            repeat (go_quiet (fail); try go_wp2)
                            go_meet
                            case rel => exact ⟨_, (t207), (by rfl), H', ⟨by have := HJ10.out; have := HK2.out; have := HK3.out; omega⟩, ⟨by (with_reducible repeat (fail)); refine blk_put (cs := #[.int .i64 t207, .int .i64 0]) ?_ 1 _ rfl; (with_reducible repeat (fail)); refine blk_put (cs := #[.int .i64 0, .int .i64 0]) ?_ 0 _ rfl; (with_reducible repeat (fail)); exact BK209.out⟩, ⟨by repeat ((with_reducible first | exact HB.out | refine below_set ?_ GE209.out))⟩⟩
                        case rest =>
                          clear HC27
                          try clear c25b0
                          try clear hcz30_0
                          try clear hcz30_1
                          try clear hfz30_0
                          try clear hfz30_1
                          obtain ⟨kq, x25_26, rfl, HA, HJ26, BK209, HB⟩ := hcut
                          cases kq with
                          | zero => exact absurd HA.out (by simp [formeref20_Place.j4])
                          | succ kj26 =>
                            have H := HA.out
                            clear HA
                            simp only [formeref20_Place.j4] at H
                            have H' := Aside0.mk H
                            clear H
                            go_wp2
                            repeat (go_quiet (fail); try go_wp2)
                            go_loopg [26, 27] kj26 (fun kq v26 v27 w' => ∃ (x26_5 : List (S41)) (x27_5 : Int), v27 = .int .i64 x27_5 ∧ Aside0 (formeref20_Place.l3 kq l0 a2 a4 a5 x20_3 x25_26 x26_5 x27_5 = some (r1, r2)) ∧ Aside0 (kq ≤ kj26) ∧ Aside0 (Kd.R k41 41 w' w.heap.size (fun _ => True) v26 x26_5) ∧ Aside0 (w'.heap[gb209]? = some (.cells #[.int .i64 t207, .int .i64 t208] 25 (0, 0))) ∧ Aside0 (Below w.heap.size w w'))
                            case atStart => exact ⟨(([] : List (S41))), (0), (by rfl), H', ⟨Nat.le_refl _⟩, ⟨by exact Kd.R_nil _ _ _ _ _⟩, ⟨by (with_reducible repeat (fail)); exact BK209.out⟩, ⟨by repeat ((with_reducible exact HB.out))⟩⟩
                            case round =>
                              clear H'
                              obtain ⟨x26_5, x27_5, rfl, HA, HK5, HO_26, BK209, HB⟩ := hrel
                              cases gk with
                              | zero => exact absurd HA.out (by simp [formeref20_Place.l3])
                              | succ k5 =>
                                have H := HA.out
                                clear HA
                                simp only [formeref20_Place.l3] at H
                                by_cases c34 : x27_5 < (l0.length : Int)
                                · rw [if_pos c34] at H
                                  have c34b0 : decide (x27_5 < (l0.length : Int)) = true := decide_eq_true c34
                                  clear c34
                                  by_cases c35 : 0 ≤ x27_5
                                  · rw [if_pos c35] at H
                                    have c35b0 : decide (0 ≤ x27_5) = true := decide_eq_true c35
                                    clear c35
                                    by_cases c36 : x26_5.length < 3518437208883
                                    · rw [if_pos c36] at H
                                      have LMc36 := Aside0.mk c36
                                      clear c36
                                      obtain ⟨y211, hy211⟩ : ∃ y_ : List (S41), y_ = (x26_5 ++ [(⟨(rd_T41 l0 x27_5).f0, (rd_T41 l0 x27_5).f1, (rd_T41 l0 x27_5).f2, (rd_T41 l0 x27_5).f3, (rd_T41 l0 x27_5).f4⟩ : S41)]) := ⟨_, rfl⟩
                                      replace H : (formeref20_Place.l3 k5 l0 a2 a4 a5 x20_3 x25_26 y211 (wrap64 (x27_5 + 1))) = some (r1, r2) := by (rw [hy211]; with_reducible exact H)
                                      have Ny211 := Aside0.mk hy211
                                      clear hy211
                                      have H' := Aside0.mk H
                                      clear H
                                      have p210 : 0 ≤ (x27_5 : Int) := of_decide_eq_true (by (with_reducible assumption))
                                      have q210 : x27_5 < (l0.length : Int) := of_decide_eq_true (by (with_reducible assumption))
                                      obtain ⟨ad210, e210, hx210_0, hx210_1, hx210_2, hx210_3, hx210_4⟩ := at_T41 HR0.out x27_5 p210 q210
                                      cases e210
                                      replace hx210_0 := (HB.out.cell (World.block_lt_of_cell? w _ hx210_0)).trans hx210_0
                                      replace hx210_1 := (HB.out.cell (World.block_lt_of_cell? w _ hx210_1)).trans hx210_1
                                      replace hx210_2 := (HB.out.cell (World.block_lt_of_cell? w _ hx210_2)).trans hx210_2
                                      replace hx210_3 := (HB.out.cell (World.block_lt_of_cell? w _ hx210_3)).trans hx210_3
                                      replace hx210_4 := (HB.out.cell (World.block_lt_of_cell? w _ hx210_4)).trans hx210_4
                                      replace p210 := eq_true p210
                                      replace q210 := eq_true q210
                                      go_wp2_with (((with_reducible refine gate_builtin (b := .append) (xs := #[.tmp 146, .tmp 151]) rfl ?_); at_builtin; refine Kd.R_append k41 (w0 := w) w.heap.size rfl (.tmp 146) (.tmp 151) 22 41 (.agg #[(.int .i64 0), (.int .i64 0), (.int .i64 0), (.int .i64 0), (.int .i64 0)]) 40 rfl Try.underlying22 info41 rfl (by decide) (by omega) u26 x26_5 (⟨(rd_T41 l0 x27_5).f0, (rd_T41 l0 x27_5).f1, (rd_T41 l0 x27_5).f2, (rd_T41 l0 x27_5).f3, (rd_T41 l0 x27_5).f4⟩ : S41) [.int .i64 ((rd_T41 l0 x27_5).f0), .int .i64 ((rd_T41 l0 x27_5).f1), .int .i64 ((rd_T41 l0 x27_5).f2), .int .i64 ((rd_T41 l0 x27_5).f3), .int .i64 ((rd_T41 l0 x27_5).f4)] (fun _ => True) (fun _ => False) rfl rfl ?aP (fun _ hk => hk.elim) ?aF ?aO ?aB ?aS ?aL ?_; (case aP => exact k41_mkM _ _ _ (⟨(rd_T41 l0 x27_5).f0, (rd_T41 l0 x27_5).f1, (rd_T41 l0 x27_5).f2, (rd_T41 l0 x27_5).f3, (rd_T41 l0 x27_5).f4⟩ : S41)); (case aB => exact (by repeat ((with_reducible exact HB.out)))); (case aF => exact (fun _ _ => trivial)); (case aO => exact (by (with_reducible repeat (fail)); exact HO_26.out)); (case aS => exact (below_size (by repeat ((with_reducible exact HB.out))))); (case aL => have := LMc36.out; omega); intro v212 w37 ho hb hg hat; rw [← Ny211.out] at ho; have n0_ := Aside0.mk (blk_grown (g := gb209) (o := .cells #[.int .i64 t207, .int .i64 t208] 25 (0, 0)) (by (with_reducible repeat (fail)); exact BK209.out) hg (Kd.R_ne HO_26.out BK209.out (by decide))); have n1_ := Aside0.mk (hb); have n2_ := Aside0.mk (ho); clear BK209; clear HB; clear HO_26; have BK209 := n0_; have HB := n1_; have HO213 := n2_; clear n0_ n1_ n2_; clear ho hb hg hat))
                                      repeat (go_quiet (fail); try go_wp2_with (fail))
                                      go_roundg k5
                                      case measure => have := HJ10.out; have := HK2.out; have := HK3.out; have := HJ26.out; have := HK5.out; omega
                                      case rel => exact ⟨(y211), (wrap64 (x27_5 + 1)), (by rfl), H', ⟨by have := HJ10.out; have := HK2.out; have := HK3.out; have := HJ26.out; have := HK5.out; omega⟩, ⟨by (with_reducible repeat (fail)); exact HO213.out⟩, ⟨by (with_reducible repeat (fail)); exact BK209.out⟩, ⟨by repeat ((with_reducible exact HB.out))⟩⟩
                                    · rw [if_neg c36] at H
                                      exact absurd H (by simp)
                                  · rw [if_neg c35] at H
                                    exact absurd H (by simp)
                                · rw [if_neg c34] at H
                                  have c34b0 : decide (x27_5 < (l0.length : Int)) = false := decide_eq_false c34
                                  clear c34
                                  by_cases c38 : x26_5.length < 3518437208883
                                  · rw [if_pos c38] at H
                                    have LMc38 := Aside0.mk c38
                                    clear c38
                                    obtain ⟨y214, hy214⟩ : ∃ y_ : List (S41), y_ = (x26_5 ++ [(⟨a2, x25_26, x20_3, a4, a5⟩ : S41)]) := ⟨_, rfl⟩
                                    replace H : (some (y214, 0)) = some (r1, r2) := by (rw [hy214]; with_reducible exact H)
                                    have Ny214 := Aside0.mk hy214
                                    clear hy214
                                    simp only [Option.some.injEq, Prod.mk.injEq] at H
                                    obtain ⟨rfl, rfl⟩ := H
                                    go_wp2_with (((with_reducible refine gate_builtin (b := .append) (xs := #[.tmp 153, .tmp 160]) rfl ?_); at_builtin; refine Kd.R_append k41 (w0 := w) w.heap.size rfl (.tmp 153) (.tmp 160) 22 41 (.agg #[(.int .i64 0), (.int .i64 0), (.int .i64 0), (.int .i64 0), (.int .i64 0)]) 40 rfl Try.underlying22 info41 rfl (by decide) (by omega) u26 x26_5 (⟨a2, x25_26, x20_3, a4, a5⟩ : S41) [.int .i64 a2, .int .i64 x25_26, .int .i64 x20_3, .int .i64 a4, .int .i64 a5] (fun _ => True) (fun _ => False) rfl rfl ?aP (fun _ hk => hk.elim) ?aF ?aO ?aB ?aS ?aL ?_; (case aP => exact k41_mkM _ _ _ (⟨a2, x25_26, x20_3, a4, a5⟩ : S41)); (case aB => exact (by repeat ((with_reducible exact HB.out)))); (case aF => exact (fun _ _ => trivial)); (case aO => exact (by (with_reducible repeat (fail)); exact HO_26.out)); (case aS => exact (below_size (by repeat ((with_reducible exact HB.out))))); (case aL => have := LMc38.out; omega); intro v215 w39 ho hb hg hat; rw [← Ny214.out] at ho; have n0_ := Aside0.mk (blk_grown (g := gb209) (o := .cells #[.int .i64 t207, .int .i64 t208] 25 (0, 0)) (by (with_reducible repeat (fail)); exact BK209.out) hg (Kd.R_ne HO_26.out BK209.out (by decide))); have n1_ := Aside0.mk (hb); have n2_ := Aside0.mk (ho); clear BK209; clear HB; clear HO_26; have BK209 := n0_; have HB := n1_; have HO216 := n2_; clear n0_ n1_ n2_; clear ho hb hg hat))
                                    repeat (go_quiet (fail); try go_wp2_with (fail))
                                    go_ret2
                                    exact ⟨_, by rfl, by (with_reducible repeat (fail)); exact HO216.out, by repeat ((with_reducible exact HB.out))⟩
                                  · rw [if_neg c38] at H
                                    exact absurd H (by simp)
                    · replace c24 := Bool.eq_false_iff.mpr c24
                      subst c24
                      have H1 : (formeref20_Place.l2 k3 l0 a1 a2 a4 a5 x20_3 2000000000 0) = some (r1, r2) := by rw [if_neg (show ¬ (false = true) by decide)] at H; exact H
                      clear H
                      have H := H1
                      clear H1
                      have H' := Aside0.mk H
                      clear H
                      go_wp2
                      repeat (go_quiet (fail); try go_wp2)
                      go_loopg [22, 23] k3 (fun kq v22 v23 w' => ∃ (x22_4 : Int) (x23_4 : Int), v22 = .int .i64 x22_4 ∧ v23 = .int .i64 x23_4 ∧ Aside0 (formeref20_Place.l2 kq l0 a1 a2 a4 a5 x20_3 x22_4 x23_4 = some (r1, r2)) ∧ Aside0 (kq ≤ k3) ∧ Aside0 (Below w.heap.size w w'))
                      case atStart => exact ⟨(2000000000), (0), (by rfl), (by rfl), H', ⟨Nat.le_refl _⟩, ⟨by repeat ((with_reducible exact HB.out))⟩⟩
                      case round =>
                        clear H'
                        obtain ⟨x22_4, x23_4, rfl, rfl, HA, HK4, HB⟩ := hrel
                        cases gk with
                        | zero => exact absurd HA.out (by simp [formeref20_Place.l2])
                        | succ k4 =>
                          have H := HA.out
                          clear HA
                          simp only [formeref20_Place.l2] at H
                          by_cases c40 : x23_4 < (l0.length : Int)
                          · rw [if_pos c40] at H
                            have c40b0 : decide (x23_4 < (l0.length : Int)) = true := decide_eq_true c40
                            clear c40
                            by_cases c41 : 0 ≤ x23_4
                            · rw [if_pos c41] at H
                              have c41b0 : decide (0 ≤ x23_4) = true := decide_eq_true c41
                              clear c41
                              by_cases c42 : (wrap64 (((rd_T41 l0 x23_4).f2) + ((rd_T41 l0 x23_4).f4))) > x20_3
                              · rw [if_pos c42] at H
                                have c42b0 : decide (x20_3 < (wrap64 (((rd_T41 l0 x23_4).f2) + ((rd_T41 l0 x23_4).f4)))) = true := decide_eq_true c42
                                clear c42
                                obtain ⟨ji43, hji43⟩ : ∃ j_ : Int, (mn x22_4 (wrap64 (((rd_T41 l0 x23_4).f2) + ((rd_T41 l0 x23_4).f4)))) = j_ := ⟨_, rfl⟩
                                replace H : (formeref20_Place.l2 k4 l0 a1 a2 a4 a5 x20_3 ji43 (wrap64 (x23_4 + 1))) = some (r1, r2) := by (rw [hji43] at H; exact H)
                                have hji43_ : (if (wrap64 (((rd_T41 l0 x23_4).f2) + ((rd_T41 l0 x23_4).f4))) < x22_4 then (wrap64 (((rd_T41 l0 x23_4).f2) + ((rd_T41 l0 x23_4).f4))) else x22_4) = ji43 := hji43
                                have H' := Aside0.mk H
                                clear H
                                have p202 : 0 ≤ (x23_4 : Int) := of_decide_eq_true (by (with_reducible assumption))
                                have q202 : x23_4 < (l0.length : Int) := of_decide_eq_true (by (with_reducible assumption))
                                obtain ⟨ad202, e202, hx202_0, hx202_1, hx202_2, hx202_3, hx202_4⟩ := at_T41 HR0.out x23_4 p202 q202
                                cases e202
                                replace hx202_0 := (HB.out.cell (World.block_lt_of_cell? w _ hx202_0)).trans hx202_0
                                replace hx202_1 := (HB.out.cell (World.block_lt_of_cell? w _ hx202_1)).trans hx202_1
                                replace hx202_2 := (HB.out.cell (World.block_lt_of_cell? w _ hx202_2)).trans hx202_2
                                replace hx202_3 := (HB.out.cell (World.block_lt_of_cell? w _ hx202_3)).trans hx202_3
                                replace hx202_4 := (HB.out.cell (World.block_lt_of_cell? w _ hx202_4)).trans hx202_4
                                replace p202 := eq_true p202
                                replace q202 := eq_true q202
                                have p203 : 0 ≤ (x23_4 : Int) := of_decide_eq_true (by (with_reducible assumption))
                                have q203 : x23_4 < (l0.length : Int) := of_decide_eq_true (by (with_reducible assumption))
                                obtain ⟨ad203, e203, hx203_0, hx203_1, hx203_2, hx203_3, hx203_4⟩ := at_T41 HR0.out x23_4 p203 q203
                                obtain rfl : ad202 = ad203 := (by injection e203)
                                replace hx203_0 := (HB.out.cell (World.block_lt_of_cell? w _ hx203_0)).trans hx203_0
                                replace hx203_1 := (HB.out.cell (World.block_lt_of_cell? w _ hx203_1)).trans hx203_1
                                replace hx203_2 := (HB.out.cell (World.block_lt_of_cell? w _ hx203_2)).trans hx203_2
                                replace hx203_3 := (HB.out.cell (World.block_lt_of_cell? w _ hx203_3)).trans hx203_3
                                replace hx203_4 := (HB.out.cell (World.block_lt_of_cell? w _ hx203_4)).trans hx203_4
                                replace p203 := eq_true p203
                                replace q203 := eq_true q203
                                have p204 : 0 ≤ (x23_4 : Int) := of_decide_eq_true (by (with_reducible assumption))
                                have q204 : x23_4 < (l0.length : Int) := of_decide_eq_true (by (with_reducible assumption))
                                obtain ⟨ad204, e204, hx204_0, hx204_1, hx204_2, hx204_3, hx204_4⟩ := at_T41 HR0.out x23_4 p204 q204
                                obtain rfl : ad202 = ad204 := (by injection e204)
                                replace hx204_0 := (HB.out.cell (World.block_lt_of_cell? w _ hx204_0)).trans hx204_0
                                replace hx204_1 := (HB.out.cell (World.block_lt_of_cell? w _ hx204_1)).trans hx204_1
                                replace hx204_2 := (HB.out.cell (World.block_lt_of_cell? w _ hx204_2)).trans hx204_2
                                replace hx204_3 := (HB.out.cell (World.block_lt_of_cell? w _ hx204_3)).trans hx204_3
                                replace hx204_4 := (HB.out.cell (World.block_lt_of_cell? w _ hx204_4)).trans hx204_4
                                replace p204 := eq_true p204
                                replace q204 := eq_true q204
                                have p205 : 0 ≤ (x23_4 : Int) := of_decide_eq_true (by (with_reducible assumption))
                                have q205 : x23_4 < (l0.length : Int) := of_decide_eq_true (by (with_reducible assumption))
                                obtain ⟨ad205, e205, hx205_0, hx205_1, hx205_2, hx205_3, hx205_4⟩ := at_T41 HR0.out x23_4 p205 q205
                                obtain rfl : ad202 = ad205 := (by injection e205)
                                replace hx205_0 := (HB.out.cell (World.block_lt_of_cell? w _ hx205_0)).trans hx205_0
                                replace hx205_1 := (HB.out.cell (World.block_lt_of_cell? w _ hx205_1)).trans hx205_1
                                replace hx205_2 := (HB.out.cell (World.block_lt_of_cell? w _ hx205_2)).trans hx205_2
                                replace hx205_3 := (HB.out.cell (World.block_lt_of_cell? w _ hx205_3)).trans hx205_3
                                replace hx205_4 := (HB.out.cell (World.block_lt_of_cell? w _ hx205_4)).trans hx205_4
                                replace p205 := eq_true p205
                                replace q205 := eq_true q205
                                go_wp2
                                repeat (go_quiet (fail); try go_wp2)
                                go_roundg k4
                                case measure => have := HJ10.out; have := HK2.out; have := HK3.out; have := HK4.out; omega
                                case rel => exact ⟨(ji43), (wrap64 (x23_4 + 1)), (by rfl), (by rfl), H', ⟨by have := HJ10.out; have := HK2.out; have := HK3.out; have := HK4.out; omega⟩, ⟨by repeat ((with_reducible first | exact HB.out | apply pw_below_drewN))⟩⟩
                              · rw [if_neg c42] at H
                                have c42b0 : decide (x20_3 < (wrap64 (((rd_T41 l0 x23_4).f2) + ((rd_T41 l0 x23_4).f4)))) = false := decide_eq_false c42
                                clear c42
                                have H' := Aside0.mk H
                                clear H
                                have p202 : 0 ≤ (x23_4 : Int) := of_decide_eq_true (by (with_reducible assumption))
                                have q202 : x23_4 < (l0.length : Int) := of_decide_eq_true (by (with_reducible assumption))
                                obtain ⟨ad202, e202, hx202_0, hx202_1, hx202_2, hx202_3, hx202_4⟩ := at_T41 HR0.out x23_4 p202 q202
                                cases e202
                                replace hx202_0 := (HB.out.cell (World.block_lt_of_cell? w _ hx202_0)).trans hx202_0
                                replace hx202_1 := (HB.out.cell (World.block_lt_of_cell? w _ hx202_1)).trans hx202_1
                                replace hx202_2 := (HB.out.cell (World.block_lt_of_cell? w _ hx202_2)).trans hx202_2
                                replace hx202_3 := (HB.out.cell (World.block_lt_of_cell? w _ hx202_3)).trans hx202_3
                                replace hx202_4 := (HB.out.cell (World.block_lt_of_cell? w _ hx202_4)).trans hx202_4
                                replace p202 := eq_true p202
                                replace q202 := eq_true q202
                                have p203 : 0 ≤ (x23_4 : Int) := of_decide_eq_true (by (with_reducible assumption))
                                have q203 : x23_4 < (l0.length : Int) := of_decide_eq_true (by (with_reducible assumption))
                                obtain ⟨ad203, e203, hx203_0, hx203_1, hx203_2, hx203_3, hx203_4⟩ := at_T41 HR0.out x23_4 p203 q203
                                obtain rfl : ad202 = ad203 := (by injection e203)
                                replace hx203_0 := (HB.out.cell (World.block_lt_of_cell? w _ hx203_0)).trans hx203_0
                                replace hx203_1 := (HB.out.cell (World.block_lt_of_cell? w _ hx203_1)).trans hx203_1
                                replace hx203_2 := (HB.out.cell (World.block_lt_of_cell? w _ hx203_2)).trans hx203_2
                                replace hx203_3 := (HB.out.cell (World.block_lt_of_cell? w _ hx203_3)).trans hx203_3
                                replace hx203_4 := (HB.out.cell (World.block_lt_of_cell? w _ hx203_4)).trans hx203_4
                                replace p203 := eq_true p203
                                replace q203 := eq_true q203
                                go_wp2
                                repeat (go_quiet (fail); try go_wp2)
                                go_roundg k4
                                case measure => have := HJ10.out; have := HK2.out; have := HK3.out; have := HK4.out; omega
                                case rel => exact ⟨(x22_4), (wrap64 (x23_4 + 1)), (by rfl), (by rfl), H', ⟨by have := HJ10.out; have := HK2.out; have := HK3.out; have := HK4.out; omega⟩, ⟨by repeat ((with_reducible first | exact HB.out | apply pw_below_drewN))⟩⟩
                            · rw [if_neg c41] at H
                              exact absurd H (by simp)
                          · rw [if_neg c40] at H
                            have c40b0 : decide (x23_4 < (l0.length : Int)) = false := decide_eq_false c40
                            clear c40
                            replace H := Option.bind_eq_some_iff.mp H
                            obtain ⟨t206, A440, H⟩ := H
                            replace H : (formeref20_Place.l1 k4 l0 a1 a2 a4 a5 x22_4 t206) = some (r1, r2) := H
                            have A44 := Aside0.mk A440
                            clear A440
                            have H' := Aside0.mk H
                            clear H
                            go_wp2_with ((go_at_call 20; (with_reducible refine (formeref20_Free.calls k4 _ _ l0 a1 x22_4 a4 a5 t206 _ ?side1 ?side2 A44.out).mono ?_); (case side1 => repeat (exact (Kd.C_below HR0.out HB.out))); (case side2 => exact HC0.out); rintro e w45 ⟨rfl, hb⟩; have n0_ := Aside0.mk (below_step (by repeat ((with_reducible exact HB.out))) hb); clear HB; have HB := n0_; clear n0_; (try clear hb)))
                            repeat (go_quiet (fail); try go_wp2_with (fail))
                            go_roundg k4
                            case measure => have := HJ10.out; have := HK2.out; have := HK3.out; have := HK4.out; omega
                            case rel => exact ⟨(x22_4), (t206), (by rfl), (by rfl), H', ⟨by have := HJ10.out; have := HK2.out; have := HK3.out; have := HK4.out; omega⟩, ⟨by repeat ((with_reducible exact HB.out))⟩⟩

end Go.Proofs.Ytffmflmpiekcfab.PAll
