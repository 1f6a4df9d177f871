/- Printed by a program of this session (wip/gprint.py) over the translation, cut to what is named (wip/dcut.py). Not trusted: Lean checks it. -/
import Derived.Test.YtacohlafmbhcdaaGreatPAlld0
namespace Go.Proofs.YtacohlafmbhcdaaGreat.PAll
open Go.RowKit Go.Proofs.YtacohlafmbhcdaaGreatW.PrintWords Go.Proofs.YtacohlafmbhcdaaGreatW.PrintLast Go.Proofs.YtacohlafmbhcdaaGreatW.PrintMore
attribute [local go_sem] max2_int min2_int max_two min_two max_three min_three max_four min_four -- for this text's walks alone
set_option linter.unusedVariables false
set_option linter.unusedSimpArgs false
section
attribute [local go_sem high] eqA40
def formeref03_SameRanges.l0 : Nat → List (S40) → List (S40) → Int → Option (Bool)
 | 0, _, _, _ => none
 | k + 1, x0, x1, x5 => if x5 < (x0.length : Int) then (if 0 ≤ x5 then (if x5 < (x1.length : Int) then (if (!(((rd_T40 x0 x5).f0) == ((rd_T40 x1 x5).f0)) || (!(((rd_T40 x0 x5).f1) == ((rd_T40 x1 x5).f1)))) = true then (some false) else (formeref03_SameRanges.l0 k x0 x1 (wrap64 (x5 + 1)))) else (none)) else (none)) else (some true)
def formeref03_SameRanges.f (k : Nat) (l0 : List (S40)) (l1 : List (S40)) : Option (Bool) := if (l0.length : Int) = (l1.length : Int) then (formeref03_SameRanges.l0 k l0 l1 0) else (some false)
theorem formeref03_SameRanges.mono_l : ∀ k, (∀ y0 y1 y2, LeO (formeref03_SameRanges.l0 k y0 y1 y2) (formeref03_SameRanges.l0 (k + 1) y0 y1 y2))
 | 0 => fun _ _ _ r h => by simp [formeref03_SameRanges.l0] at h
 | k + 1 => by
  have ih0 := formeref03_SameRanges.mono_l k
  · intro y0 y1 y2
    unfold formeref03_SameRanges.l0
    repeat' first
    | (with_reducible exact ih0 _ _ _)
    | (with_reducible exact LeO.refl _)
    | (with_reducible exact LeO.none _)
    | (with_reducible refine LeO.ite ?_ ?_)
    | (with_reducible refine LeO.bind ?_ (fun _ => ?_))
    | exact ih0 _ _ _
    | exact LeO.none _
    | refine LeO.ite ?_ ?_
    | refine LeO.bind ?_ (fun _ => ?_)
theorem formeref03_SameRanges.mono : ∀ a0 a1 k, LeO (formeref03_SameRanges.f k a0 a1) (formeref03_SameRanges.f (k + 1) a0 a1) := by
 intro a0 a1 k
 have ih0 := formeref03_SameRanges.mono_l k
 unfold formeref03_SameRanges.f
 repeat' first
   | (with_reducible exact ih0 _ _ _)
   | (with_reducible exact LeO.refl _)
   | (with_reducible exact LeO.none _)
   | (with_reducible refine LeO.ite ?_ ?_)
   | (with_reducible refine LeO.bind ?_ (fun _ => ?_))
   | exact ih0 _ _ _
   | exact LeO.none _
   | refine LeO.ite ?_ ?_
   | refine LeO.bind ?_ (fun _ => ?_)
def formeref03_zones.l0 : Nat → Int → Int → Int → List (S40) → List (S42) → Int → Option ((List (S42)))
 | 0, _, _, _, _, _, _ => none
 | k + 1, x0, x1, x2, x3, x9, x10 => if x10 < (x3.length : Int) then (if 0 ≤ x10 then (if x9.length < 3518437208883 then (formeref03_zones.l0 k x0 x1 x2 x3 (x9 ++ [(⟨x0, (⟨x1, x2⟩ : S40), (⟨(rd_T40 x3 x10).f0, (rd_T40 x3 x10).f1⟩ : S40)⟩ : S42)]) (wrap64 (x10 + 1))) else (none)) else (none)) else (some x9)
def formeref03_zones.f (k : Nat) (a0 : Int) (a1 : Int) (a2 : Int) (l3 : List (S40)) : Option ((List (S42))) := formeref03_zones.l0 k a0 a1 a2 l3 ([] : List (S42)) 0
theorem formeref03_zones.mono_l : ∀ k, (∀ y0 y1 y2 y3 y4 y5, LeO (formeref03_zones.l0 k y0 y1 y2 y3 y4 y5) (formeref03_zones.l0 (k + 1) y0 y1 y2 y3 y4 y5))
 | 0 => fun _ _ _ _ _ _ r h => by simp [formeref03_zones.l0] at h
 | k + 1 => by
  have ih0 := formeref03_zones.mono_l k
  · intro y0 y1 y2 y3 y4 y5
    unfold formeref03_zones.l0
    repeat' first
    | (with_reducible exact ih0 _ _ _ _ _ _)
    | (with_reducible exact LeO.refl _)
    | (with_reducible exact LeO.none _)
    | (with_reducible refine LeO.ite ?_ ?_)
    | (with_reducible refine LeO.bind ?_ (fun _ => ?_))
    | exact ih0 _ _ _ _ _ _
    | exact LeO.none _
    | refine LeO.ite ?_ ?_
    | refine LeO.bind ?_ (fun _ => ?_)
theorem formeref03_zones.mono : ∀ a0 a1 a2 a3 k, LeO (formeref03_zones.f k a0 a1 a2 a3) (formeref03_zones.f (k + 1) a0 a1 a2 a3) := by
 intro a0 a1 a2 a3 k
 have ih0 := formeref03_zones.mono_l k
 unfold formeref03_zones.f
 repeat' first
   | (with_reducible exact ih0 _ _ _ _ _ _)
   | (with_reducible exact LeO.refl _)
   | (with_reducible exact LeO.none _)
   | (with_reducible refine LeO.ite ?_ ?_)
   | (with_reducible refine LeO.bind ?_ (fun _ => ?_))
   | exact ih0 _ _ _ _ _ _
   | exact LeO.none _
   | refine LeO.ite ?_ ?_
   | refine LeO.bind ?_ (fun _ => ?_)
mutual
def formeref03_form.j0 : Nat → List (S42) → List (S42) → Int → Bool → Option ((List (S42)) × Int)
 | 0, _, _, _, _ => none
 | k + 1, x0, x1, x2, x21 => if x21 = true then (some (([] : List (S42)), 1)) else (formeref03_form.l0 k x0 x1 x2 ([] : List (S42)) 0)
def formeref03_form.l0 : Nat → List (S42) → List (S42) → Int → List (S42) → Int → Option ((List (S42)) × Int)
 | 0, _, _, _, _, _ => none
 | k + 1, x0, x1, x2, x8, x9 => if x9 < 4 then ((formeref03_both.f k x0 x1 x9 50 x2).bind fun t350 => (formeref03_form.l1 k x0 x1 x2 x8 x9 50 t350 51)) else (if (x8.length : Int) > 1000 then (some (([] : List (S42)), 2)) else (some (x8, 0)))
def formeref03_form.l1 : Nat → List (S42) → List (S42) → Int → List (S42) → Int → Int → List (S40) → Int → Option ((List (S42)) × Int)
 | 0, _, _, _, _, _, _, _, _ => none
 | k + 1, x0, x1, x2, x8, x9, x10, x11, x12 => if x12 ≤ 300 then ((formeref03_both.f k x0 x1 x9 x12 x2).bind fun t359 => ((formeref03_SameRanges.f k x11 t359).bind fun t362 => (if t362 = true then (formeref03_form.l1 k x0 x1 x2 x8 x9 x10 x11 (wrap64 (x12 + 1))) else ((formeref03_zones.f k x9 x10 (wrap64 (x12 - 1)) x11).bind fun t363 => (if x8.length + t363.length < 3518437208883 then (formeref03_form.l1 k x0 x1 x2 (x8 ++ t363) x9 x12 t359 (wrap64 (x12 + 1))) else (none)))))) else ((formeref03_zones.f k x9 x10 300 x11).bind fun t353 => (if x8.length + t353.length < 3518437208883 then (formeref03_form.l0 k x0 x1 x2 (x8 ++ t353) (wrap64 (x9 + 1))) else (none)))
end
def formeref03_form.f (k : Nat) (l0 : List (S42)) (l1 : List (S42)) (a2 : Int) : Option ((List (S42)) × Int) := (formeref03_Valid.f k l0).bind fun t348 => (if t348 = true then ((formeref03_Valid.f k l1).bind fun t349 => (formeref03_form.j0 k l0 l1 a2 (!t349))) else (formeref03_form.j0 k l0 l1 a2 true))
theorem formeref03_form.mono_l : ∀ k, (∀ y0 y1 y2 y3, LeO (formeref03_form.j0 k y0 y1 y2 y3) (formeref03_form.j0 (k + 1) y0 y1 y2 y3)) ∧ (∀ y0 y1 y2 y3 y4, LeO (formeref03_form.l0 k y0 y1 y2 y3 y4) (formeref03_form.l0 (k + 1) y0 y1 y2 y3 y4)) ∧ (∀ y0 y1 y2 y3 y4 y5 y6 y7, LeO (formeref03_form.l1 k y0 y1 y2 y3 y4 y5 y6 y7) (formeref03_form.l1 (k + 1) y0 y1 y2 y3 y4 y5 y6 y7))
 | 0 => ⟨fun _ _ _ _ r h => by simp [formeref03_form.j0] at h, fun _ _ _ _ _ r h => by simp [formeref03_form.l0] at h, fun _ _ _ _ _ _ _ _ r h => by simp [formeref03_form.l1] at h⟩
 | k + 1 => by
  obtain ⟨ih0, ih1, ih2⟩ := formeref03_form.mono_l k
  refine ⟨?_, ?_, ?_⟩
  · intro y0 y1 y2 y3
    unfold formeref03_form.j0
    repeat' first
    | (with_reducible exact ih0 _ _ _ _)
    | (with_reducible exact ih1 _ _ _ _ _)
    | (with_reducible exact ih2 _ _ _ _ _ _ _ _)
    | (with_reducible exact formeref03_SameRanges.mono _ _ _)
    | (with_reducible exact formeref03_Valid.mono _ _)
    | (with_reducible exact formeref03_both.mono _ _ _ _ _ _)
    | (with_reducible exact formeref03_zones.mono _ _ _ _ _)
    | (with_reducible exact LeO.refl _)
    | (with_reducible exact LeO.none _)
    | (with_reducible refine LeO.ite ?_ ?_)
    | (with_reducible refine LeO.bind ?_ (fun _ => ?_))
    | exact ih0 _ _ _ _
    | exact ih1 _ _ _ _ _
    | exact ih2 _ _ _ _ _ _ _ _
    | exact formeref03_SameRanges.mono _ _ _
    | exact formeref03_Valid.mono _ _
    | exact formeref03_both.mono _ _ _ _ _ _
    | exact formeref03_zones.mono _ _ _ _ _
    | exact LeO.none _
    | refine LeO.ite ?_ ?_
    | refine LeO.bind ?_ (fun _ => ?_)
  · intro y0 y1 y2 y3 y4
    unfold formeref03_form.l0
    repeat' first
    | (with_reducible exact ih0 _ _ _ _)
    | (with_reducible exact ih1 _ _ _ _ _)
    | (with_reducible exact ih2 _ _ _ _ _ _ _ _)
    | (with_reducible exact formeref03_SameRanges.mono _ _ _)
    | (with_reducible exact formeref03_Valid.mono _ _)
    | (with_reducible exact formeref03_both.mono _ _ _ _ _ _)
    | (with_reducible exact formeref03_zones.mono _ _ _ _ _)
    | (with_reducible exact LeO.refl _)
    | (with_reducible exact LeO.none _)
    | (with_reducible refine LeO.ite ?_ ?_)
    | (with_reducible refine LeO.bind ?_ (fun _ => ?_))
    | exact ih0 _ _ _ _
    | exact ih1 _ _ _ _ _
    | exact ih2 _ _ _ _ _ _ _ _
    | exact formeref03_SameRanges.mono _ _ _
    | exact formeref03_Valid.mono _ _
    | exact formeref03_both.mono _ _ _ _ _ _
    | exact formeref03_zones.mono _ _ _ _ _
    | exact LeO.none _
    | refine LeO.ite ?_ ?_
    | refine LeO.bind ?_ (fun _ => ?_)
  · intro y0 y1 y2 y3 y4 y5 y6 y7
    unfold formeref03_form.l1
    repeat' first
    | (with_reducible exact ih0 _ _ _ _)
    | (with_reducible exact ih1 _ _ _ _ _)
    | (with_reducible exact ih2 _ _ _ _ _ _ _ _)
    | (with_reducible exact formeref03_SameRanges.mono _ _ _)
    | (with_reducible exact formeref03_Valid.mono _ _)
    | (with_reducible exact formeref03_both.mono _ _ _ _ _ _)
    | (with_reducible exact formeref03_zones.mono _ _ _ _ _)
    | (with_reducible exact LeO.refl _)
    | (with_reducible exact LeO.none _)
    | (with_reducible refine LeO.ite ?_ ?_)
    | (with_reducible refine LeO.bind ?_ (fun _ => ?_))
    | exact ih0 _ _ _ _
    | exact ih1 _ _ _ _ _
    | exact ih2 _ _ _ _ _ _ _ _
    | exact formeref03_SameRanges.mono _ _ _
    | exact formeref03_Valid.mono _ _
    | exact formeref03_both.mono _ _ _ _ _ _
    | exact formeref03_zones.mono _ _ _ _ _
    | exact LeO.none _
    | refine LeO.ite ?_ ?_
    | refine LeO.bind ?_ (fun _ => ?_)
theorem formeref03_form.mono : ∀ a0 a1 a2 k, LeO (formeref03_form.f k a0 a1 a2) (formeref03_form.f (k + 1) a0 a1 a2) := by
 intro a0 a1 a2 k
 obtain ⟨ih0, ih1, ih2⟩ := formeref03_form.mono_l k
 unfold formeref03_form.f
 repeat' first
   | (with_reducible exact ih0 _ _ _ _)
   | (with_reducible exact ih1 _ _ _ _ _)
   | (with_reducible exact ih2 _ _ _ _ _ _ _ _)
   | (with_reducible exact formeref03_SameRanges.mono _ _ _)
   | (with_reducible exact formeref03_Valid.mono _ _)
   | (with_reducible exact formeref03_both.mono _ _ _ _ _ _)
   | (with_reducible exact formeref03_zones.mono _ _ _ _ _)
   | (with_reducible exact LeO.refl _)
   | (with_reducible exact LeO.none _)
   | (with_reducible refine LeO.ite ?_ ?_)
   | (with_reducible refine LeO.bind ?_ (fun _ => ?_))
   | exact ih0 _ _ _ _
   | exact ih1 _ _ _ _ _
   | exact ih2 _ _ _ _ _ _ _ _
   | exact formeref03_SameRanges.mono _ _ _
   | exact formeref03_Valid.mono _ _
   | exact formeref03_both.mono _ _ _ _ _ _
   | exact formeref03_zones.mono _ _ _ _ _
   | exact LeO.none _
   | refine LeO.ite ?_ ?_
   | refine LeO.bind ?_ (fun _ => ?_)
def formeref03_Canon.f (k : Nat) (l0 : List (S42)) : Option ((List (S42)) × Int) := (formeref03_form.f k l0 ([] : List (S42)) 0).bind fun bt369 => (some (bt369.1, bt369.2))
theorem formeref03_Canon.mono : ∀ a0 k, LeO (formeref03_Canon.f k a0) (formeref03_Canon.f (k + 1) a0) := by
 intro a0 k
 unfold formeref03_Canon.f
 repeat' first
   | (with_reducible exact formeref03_form.mono _ _ _ _)
   | (with_reducible exact LeO.refl _)
   | (with_reducible exact LeO.none _)
   | (with_reducible refine LeO.ite ?_ ?_)
   | (with_reducible refine LeO.bind ?_ (fun _ => ?_))
   | exact formeref03_form.mono _ _ _ _
   | exact LeO.none _
   | refine LeO.ite ?_ ?_
   | refine LeO.bind ?_ (fun _ => ?_)
end
section
def zone_Union.f (l0 l1 : List S42) : Option (List S42 × Int) := some (formR l0 l1 (bothP l0 l1 0))
end
section
def formeref03_Union.f (k : Nat) (l0 : List (S42)) (l1 : List (S42)) : Option ((List (S42)) × Int) := (formeref03_form.f k l0 l1 0).bind fun bt373 => (some (bt373.1, bt373.2))
theorem formeref03_Union.mono : ∀ a0 a1 k, LeO (formeref03_Union.f k a0 a1) (formeref03_Union.f (k + 1) a0 a1) := by
 intro a0 a1 k
 unfold formeref03_Union.f
 repeat' first
   | (with_reducible exact formeref03_form.mono _ _ _ _)
   | (with_reducible exact LeO.refl _)
   | (with_reducible exact LeO.none _)
   | (with_reducible refine LeO.ite ?_ ?_)
   | (with_reducible refine LeO.bind ?_ (fun _ => ?_))
   | exact formeref03_form.mono _ _ _ _
   | exact LeO.none _
   | refine LeO.ite ?_ ?_
   | refine LeO.bind ?_ (fun _ => ?_)
def formeref03_Meet.f (k : Nat) (l0 : List (S42)) (l1 : List (S42)) : Option ((List (S42)) × Int) := (formeref03_form.f k l0 l1 1).bind fun bt377 => (some (bt377.1, bt377.2))
theorem formeref03_Meet.mono : ∀ a0 a1 k, LeO (formeref03_Meet.f k a0 a1) (formeref03_Meet.f (k + 1) a0 a1) := by
 intro a0 a1 k
 unfold formeref03_Meet.f
 repeat' first
   | (with_reducible exact formeref03_form.mono _ _ _ _)
   | (with_reducible exact LeO.refl _)
   | (with_reducible exact LeO.none _)
   | (with_reducible refine LeO.ite ?_ ?_)
   | (with_reducible refine LeO.bind ?_ (fun _ => ?_))
   | exact formeref03_form.mono _ _ _ _
   | exact LeO.none _
   | refine LeO.ite ?_ ?_
   | refine LeO.bind ?_ (fun _ => ?_)
def formeref03_Less.f (k : Nat) (l0 : List (S42)) (l1 : List (S42)) : Option ((List (S42)) × Int) := (formeref03_form.f k l0 l1 2).bind fun bt381 => (some (bt381.1, bt381.2))
theorem formeref03_Less.mono : ∀ a0 a1 k, LeO (formeref03_Less.f k a0 a1) (formeref03_Less.f (k + 1) a0 a1) := by
 intro a0 a1 k
 unfold formeref03_Less.f
 repeat' first
   | (with_reducible exact formeref03_form.mono _ _ _ _)
   | (with_reducible exact LeO.refl _)
   | (with_reducible exact LeO.none _)
   | (with_reducible refine LeO.ite ?_ ?_)
   | (with_reducible refine LeO.bind ?_ (fun _ => ?_))
   | exact formeref03_form.mono _ _ _ _
   | exact LeO.none _
   | refine LeO.ite ?_ ?_
   | refine LeO.bind ?_ (fun _ => ?_)
def formeref03_Before.f (a0_0 : Int) (a0_1 : Int) (a0_2 : Int) (a1_0 : Int) (a1_1 : Int) (a1_2 : Int) : Option (Bool) := if a0_2 = a1_2 then (if a0_1 = a1_1 then (some (decide (a0_0 < a1_0))) else (some (decide (a0_1 < a1_1)))) else (some (decide (a0_2 < a1_2)))
def formeref03_First.f (a0_0 : Int) (a0_1 : Int) (a0_2 : Int) (a0_3 : Int) (a0_4 : Int) : Option (Int × Int × Int) := some (a0_3, a0_1, a0_0)
def formeref03_Least.l0 : Nat → List (S42) → Int → Int → Int → Int → Option (Int × Int × Int × Bool × Int)
 | 0, _, _, _, _, _ => none
 | k + 1, x0, x6, x392000, x392001, x392002 => if x6 < (x0.length : Int) then (if x6 = 0 then (if 0 ≤ x6 then ((formeref03_First.f ((rd_T42 x0 x6).f0) ((rd_T42 x0 x6).f1.f0) ((rd_T42 x0 x6).f1.f1) ((rd_T42 x0 x6).f2.f0) ((rd_T42 x0 x6).f2.f1)).bind fun bt393 => (formeref03_Least.l0 k x0 (wrap64 (x6 + 1)) bt393.1 bt393.2.1 bt393.2.2)) else (none)) else (if 0 ≤ x6 then ((formeref03_First.f ((rd_T42 x0 x6).f0) ((rd_T42 x0 x6).f1.f0) ((rd_T42 x0 x6).f1.f1) ((rd_T42 x0 x6).f2.f0) ((rd_T42 x0 x6).f2.f1)).bind fun bt397 => ((formeref03_Before.f bt397.1 bt397.2.1 bt397.2.2 x392000 x392001 x392002).bind fun t400 => (if t400 = true then ((formeref03_First.f ((rd_T42 x0 x6).f0) ((rd_T42 x0 x6).f1.f0) ((rd_T42 x0 x6).f1.f1) ((rd_T42 x0 x6).f2.f0) ((rd_T42 x0 x6).f2.f1)).bind fun bt402 => (formeref03_Least.l0 k x0 (wrap64 (x6 + 1)) bt402.1 bt402.2.1 bt402.2.2)) else (formeref03_Least.l0 k x0 (wrap64 (x6 + 1)) x392000 x392001 x392002)))) else (none))) else (some (x392000, x392001, x392002, decide ((x0.length : Int) > 0), 0))
def formeref03_Least.f (k : Nat) (l0 : List (S42)) : Option (Int × Int × Int × Bool × Int) := (formeref03_Valid.f k l0).bind fun t390 => (if t390 = true then (formeref03_Least.l0 k l0 0 0 0 0) else (some (0, 0, 0, false, 1)))
theorem formeref03_Least.mono_l : ∀ k, (∀ y0 y1 y2 y3 y4, LeO (formeref03_Least.l0 k y0 y1 y2 y3 y4) (formeref03_Least.l0 (k + 1) y0 y1 y2 y3 y4))
 | 0 => fun _ _ _ _ _ r h => by simp [formeref03_Least.l0] at h
 | k + 1 => by
  have ih0 := formeref03_Least.mono_l k
  · intro y0 y1 y2 y3 y4
    unfold formeref03_Least.l0
    repeat' first
    | (with_reducible exact ih0 _ _ _ _ _)
    | (with_reducible exact formeref03_Valid.mono _ _)
    | (with_reducible exact LeO.refl _)
    | (with_reducible exact LeO.none _)
    | (with_reducible refine LeO.ite ?_ ?_)
    | (with_reducible refine LeO.bind ?_ (fun _ => ?_))
    | exact ih0 _ _ _ _ _
    | exact formeref03_Valid.mono _ _
    | exact LeO.none _
    | refine LeO.ite ?_ ?_
    | refine LeO.bind ?_ (fun _ => ?_)
theorem formeref03_Least.mono : ∀ a0 k, LeO (formeref03_Least.f k a0) (formeref03_Least.f (k + 1) a0) := by
 intro a0 k
 have ih0 := formeref03_Least.mono_l k
 unfold formeref03_Least.f
 repeat' first
   | (with_reducible exact ih0 _ _ _ _ _)
   | (with_reducible exact formeref03_Valid.mono _ _)
   | (with_reducible exact LeO.refl _)
   | (with_reducible exact LeO.none _)
   | (with_reducible refine LeO.ite ?_ ?_)
   | (with_reducible refine LeO.bind ?_ (fun _ => ?_))
   | exact ih0 _ _ _ _ _
   | exact formeref03_Valid.mono _ _
   | exact LeO.none _
   | refine LeO.ite ?_ ?_
   | refine LeO.bind ?_ (fun _ => ?_)
def formeref03_Least.T7 : Bool × List (List Nat × List Nat) := (true, [([], []), ([0], [0]), ([1], [1]), ([2], [2]), ([2], [2]), ([3, 4, 2], [2, 3, 4]), ([5, 2], [2, 5]), ([6, 2, 2], [2, 6]), ([2], [2]), ([7, 8, 7, 2], [2, 7, 8]), ([2, 9], [2, 9])])
def formeref03_Least.B7 : List Nat := [0, 1, 3, 7, 7, 31, 63, 127, 7, 511, 1023]
theorem formeref03_Least.tab7 : rtab .any (opsOf Tryz.f19 7) = formeref03_Least.T7 := by kernel_rfl
theorem formeref03_Least.bits7 : waitsOk formeref03_Least.T7.2 formeref03_Least.B7 = true := by kernel_rfl
end
section
mutual
def formeref03_Count.l0 : Nat → List (S42) → Int → Int → Option (Int × Int)
 | 0, _, _, _ => none
 | k + 1, x0, x4, x5 => if x5 < 4 then (formeref03_Count.l1 k x0 x4 x5 50) else (some (x4, 0))
def formeref03_Count.l1 : Nat → List (S42) → Int → Int → Int → Option (Int × Int)
 | 0, _, _, _, _ => none
 | k + 1, x0, x4, x5, x6 => if x6 ≤ 300 then ((formeref03_widths.f k x0 x5 x6).bind fun t406 => (formeref03_Count.l2 k x0 x4 x5 x6 t406 0)) else (formeref03_Count.l0 k x0 x4 (wrap64 (x5 + 1)))
def formeref03_Count.l2 : Nat → List (S42) → Int → Int → Int → List (S40) → Int → Option (Int × Int)
 | 0, _, _, _, _, _, _ => none
 | k + 1, x0, x4, x5, x6, x7, x8 => if x8 < (x7.length : Int) then (if 0 ≤ x8 then (formeref03_Count.l2 k x0 (wrap64 ((wrap64 ((wrap64 (x4 + ((rd_T40 x7 x8).f1))) - ((rd_T40 x7 x8).f0))) + 1)) x5 x6 x7 (wrap64 (x8 + 1))) else (none)) else (formeref03_Count.l1 k x0 x4 x5 (wrap64 (x6 + 1)))
end
def formeref03_Count.f (k : Nat) (l0 : List (S42)) : Option (Int × Int) := (formeref03_Valid.f k l0).bind fun t405 => (if t405 = true then (formeref03_Count.l0 k l0 0 0) else (some (0, 1)))
theorem formeref03_Count.mono_l : ∀ k, (∀ y0 y1 y2, LeO (formeref03_Count.l0 k y0 y1 y2) (formeref03_Count.l0 (k + 1) y0 y1 y2)) ∧ (∀ y0 y1 y2 y3, LeO (formeref03_Count.l1 k y0 y1 y2 y3) (formeref03_Count.l1 (k + 1) y0 y1 y2 y3)) ∧ (∀ y0 y1 y2 y3 y4 y5, LeO (formeref03_Count.l2 k y0 y1 y2 y3 y4 y5) (formeref03_Count.l2 (k + 1) y0 y1 y2 y3 y4 y5))
 | 0 => ⟨fun _ _ _ r h => by simp [formeref03_Count.l0] at h, fun _ _ _ _ r h => by simp [formeref03_Count.l1] at h, fun _ _ _ _ _ _ r h => by simp [formeref03_Count.l2] at h⟩
 | k + 1 => by
  obtain ⟨ih0, ih1, ih2⟩ := formeref03_Count.mono_l k
  refine ⟨?_, ?_, ?_⟩
  · intro y0 y1 y2
    unfold formeref03_Count.l0
    repeat' first
    | (with_reducible exact ih0 _ _ _)
    | (with_reducible exact ih1 _ _ _ _)
    | (with_reducible exact ih2 _ _ _ _ _ _)
    | (with_reducible exact formeref03_Valid.mono _ _)
    | (with_reducible exact formeref03_widths.mono _ _ _ _)
    | (with_reducible exact LeO.refl _)
    | (with_reducible exact LeO.none _)
    | (with_reducible refine LeO.ite ?_ ?_)
    | (with_reducible refine LeO.bind ?_ (fun _ => ?_))
    | exact ih0 _ _ _
    | exact ih1 _ _ _ _
    | exact ih2 _ _ _ _ _ _
    | exact formeref03_Valid.mono _ _
    | exact formeref03_widths.mono _ _ _ _
    | exact LeO.none _
    | refine LeO.ite ?_ ?_
    | refine LeO.bind ?_ (fun _ => ?_)
  · intro y0 y1 y2 y3
    unfold formeref03_Count.l1
    repeat' first
    | (with_reducible exact ih0 _ _ _)
    | (with_reducible exact ih1 _ _ _ _)
    | (with_reducible exact ih2 _ _ _ _ _ _)
    | (with_reducible exact formeref03_Valid.mono _ _)
    | (with_reducible exact formeref03_widths.mono _ _ _ _)
    | (with_reducible exact LeO.refl _)
    | (with_reducible exact LeO.none _)
    | (with_reducible refine LeO.ite ?_ ?_)
    | (with_reducible refine LeO.bind ?_ (fun _ => ?_))
    | exact ih0 _ _ _
    | exact ih1 _ _ _ _
    | exact ih2 _ _ _ _ _ _
    | exact formeref03_Valid.mono _ _
    | exact formeref03_widths.mono _ _ _ _
    | exact LeO.none _
    | refine LeO.ite ?_ ?_
    | refine LeO.bind ?_ (fun _ => ?_)
  · intro y0 y1 y2 y3 y4 y5
    unfold formeref03_Count.l2
    repeat' first
    | (with_reducible exact ih0 _ _ _)
    | (with_reducible exact ih1 _ _ _ _)
    | (with_reducible exact ih2 _ _ _ _ _ _)
    | (with_reducible exact formeref03_Valid.mono _ _)
    | (with_reducible exact formeref03_widths.mono _ _ _ _)
    | (with_reducible exact LeO.refl _)
    | (with_reducible exact LeO.none _)
    | (with_reducible refine LeO.ite ?_ ?_)
    | (with_reducible refine LeO.bind ?_ (fun _ => ?_))
    | exact ih0 _ _ _
    | exact ih1 _ _ _ _
    | exact ih2 _ _ _ _ _ _
    | exact formeref03_Valid.mono _ _
    | exact formeref03_widths.mono _ _ _ _
    | exact LeO.none _
    | refine LeO.ite ?_ ?_
    | refine LeO.bind ?_ (fun _ => ?_)
theorem formeref03_Count.mono : ∀ a0 k, LeO (formeref03_Count.f k a0) (formeref03_Count.f (k + 1) a0) := by
 intro a0 k
 obtain ⟨ih0, ih1, ih2⟩ := formeref03_Count.mono_l k
 unfold formeref03_Count.f
 repeat' first
   | (with_reducible exact ih0 _ _ _)
   | (with_reducible exact ih1 _ _ _ _)
   | (with_reducible exact ih2 _ _ _ _ _ _)
   | (with_reducible exact formeref03_Valid.mono _ _)
   | (with_reducible exact formeref03_widths.mono _ _ _ _)
   | (with_reducible exact LeO.refl _)
   | (with_reducible exact LeO.none _)
   | (with_reducible refine LeO.ite ?_ ?_)
   | (with_reducible refine LeO.bind ?_ (fun _ => ?_))
   | exact ih0 _ _ _
   | exact ih1 _ _ _ _
   | exact ih2 _ _ _ _ _ _
   | exact formeref03_Valid.mono _ _
   | exact formeref03_widths.mono _ _ _ _
   | exact LeO.none _
   | refine LeO.ite ?_ ?_
   | refine LeO.bind ?_ (fun _ => ?_)
end
section
def formelaw03_ZoneMatchesReference.f (l0 l1 : List S42) (a2_0 a2_1 a2_2 : Int) : Option Bool := if l0.length ≤ 4000000000000000000 ∧ l1.length ≤ 4000000000000000000 then some true else none
theorem Drawn0.below2 {w w' : World} (h : Drawn0 w w') : Below w.heap.size w w' := by
 obtain ⟨n, rfl⟩ := h
 exact pw_below_drewN (Below.refl _ _) n
end
end Go.Proofs.YtacohlafmbhcdaaGreat.PAll
