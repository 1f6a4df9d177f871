/- Printed by a program of this session (wip/gprint.py) over the translation. Not trusted: Lean checks it. -/
import Derived.Test.YtacohlafmbhcdaaPAlld0
namespace Go.Proofs.Ytacohlafmbhcdaa.PAll
open Go.RowKit Go.Proofs.YtacohlafmbhcdaaW.PrintWords Go.Proofs.YtacohlafmbhcdaaW.PrintLast Go.Proofs.YtacohlafmbhcdaaW.PrintMore
attribute [local go_sem] max2_int min2_int max_two min_two max_three min_three max_four min_four   -- for this text's walks alone
set_option linter.unusedVariables false
set_option linter.unusedSimpArgs false

section
def formelaw03_ZoneCount.l0 : Nat → Bool → List (S35) → Int → Int → Int → Int → Int → Int → List (S35) → Int → Int → Option (Bool)
  | 0, _, _, _, _, _, _, _, _, _, _, _ => none
  | k + 1, x3, x4, x5, x6, x7, x8, x9, x10, x33, x34, x35 => if x35 < x34 then (if 0 ≤ x35 then (if x35 < (x33.length : Int) then (if x35 > 0 then (if 0 ≤ (wrap64 (x35 - 1)) then (if (wrap64 (x35 - 1)) < (x4.length : Int) then ((formeref03_First.f ((rd_T35 x4 (wrap64 (x35 - 1))).f0) ((rd_T35 x4 (wrap64 (x35 - 1))).f1.f0) ((rd_T35 x4 (wrap64 (x35 - 1))).f1.f1) ((rd_T35 x4 (wrap64 (x35 - 1))).f2.f0) ((rd_T35 x4 (wrap64 (x35 - 1))).f2.f1)).bind fun bt379 => ((formeref03_First.f ((rd_T35 x33 x35).f0) ((rd_T35 x33 x35).f1.f0) ((rd_T35 x33 x35).f1.f1) ((rd_T35 x33 x35).f2.f0) ((rd_T35 x33 x35).f2.f1)).bind fun bt382 => ((formeref03_Before.f bt379.1 bt379.2.1 bt379.2.2 bt382.1 bt382.2.1 bt382.2.2).bind fun t385 => (if t385 = true then (formelaw03_ZoneCount.l0 k x3 x4 x5 x6 x7 x8 x9 (wrap64 (x10 + (wrap64 ((wrap64 ((wrap64 (((rd_T35 x33 x35).f1.f1) - ((rd_T35 x33 x35).f1.f0))) + 1)) * (wrap64 ((wrap64 (((rd_T35 x33 x35).f2.f1) - ((rd_T35 x33 x35).f2.f0))) + 1)))))) x33 x34 (wrap64 (x35 + 1))) else (some false))))) else (none)) else (none)) else (formelaw03_ZoneCount.l0 k x3 x4 x5 x6 x7 x8 x9 (wrap64 (x10 + (wrap64 ((wrap64 ((wrap64 (((rd_T35 x33 x35).f1.f1) - ((rd_T35 x33 x35).f1.f0))) + 1)) * (wrap64 ((wrap64 (((rd_T35 x33 x35).f2.f1) - ((rd_T35 x33 x35).f2.f0))) + 1)))))) x33 x34 (wrap64 (x35 + 1)))) else (none)) else (none)) else (if x3 = true then (if x5 = 0 then (if x7 = 0 then (if x9 = 0 then (if x6 = x8 then (some (x6 == x10)) else (some false)) else (some false)) else (some false)) else (some false)) else (some false))
def formelaw03_ZoneCount.f (k : Nat) (l0 : List (S35)) : Option (Bool) := (formelaw03_head.f).bind fun t366 => ((formelaw03_usable.f k l0 ([] : List (S35))).bind fun t367 => (if t367 = true then ((zone_Canon.f l0).bind fun bt368 => ((zone_Count.f l0).bind fun bt372 => ((zone_Count.f bt368.1).bind fun bt374 => (formelaw03_ZoneCount.l0 k t366 bt368.1 bt368.2 bt372.1 bt372.2 bt374.1 bt374.2 0 bt368.1 (bt368.1.length : Int) 0)))) else (some t366)))
theorem formelaw03_ZoneCount.mono_l : ∀ k, (∀ y0 y1 y2 y3 y4 y5 y6 y7 y8 y9 y10, LeO (formelaw03_ZoneCount.l0 k y0 y1 y2 y3 y4 y5 y6 y7 y8 y9 y10) (formelaw03_ZoneCount.l0 (k + 1) y0 y1 y2 y3 y4 y5 y6 y7 y8 y9 y10))
  | 0 => fun _ _ _ _ _ _ _ _ _ _ _ r h => by simp [formelaw03_ZoneCount.l0] at h
  | k + 1 => by
    have ih0 := formelaw03_ZoneCount.mono_l k
    · intro y0 y1 y2 y3 y4 y5 y6 y7 y8 y9 y10
      unfold formelaw03_ZoneCount.l0
      repeat' first
      | (with_reducible exact ih0 _ _ _ _ _ _ _ _ _ _ _)
      | (with_reducible exact formelaw03_usable.mono _ _ _)
      | (with_reducible exact LeO.refl _)
      | (with_reducible exact LeO.none _)
      | (with_reducible refine LeO.ite ?_ ?_)
      | (with_reducible refine LeO.bind ?_ (fun _ => ?_))
      | exact ih0 _ _ _ _ _ _ _ _ _ _ _
      | exact formelaw03_usable.mono _ _ _
      | exact LeO.none _
      | refine LeO.ite ?_ ?_
      | refine LeO.bind ?_ (fun _ => ?_)
theorem formelaw03_ZoneCount.mono : ∀ a0 k, LeO (formelaw03_ZoneCount.f k a0) (formelaw03_ZoneCount.f (k + 1) a0) := by
  intro a0 k
  have ih0 := formelaw03_ZoneCount.mono_l k
  unfold formelaw03_ZoneCount.f
  repeat' first
      | (with_reducible exact ih0 _ _ _ _ _ _ _ _ _ _ _)
      | (with_reducible exact formelaw03_usable.mono _ _ _)
      | (with_reducible exact LeO.refl _)
      | (with_reducible exact LeO.none _)
      | (with_reducible refine LeO.ite ?_ ?_)
      | (with_reducible refine LeO.bind ?_ (fun _ => ?_))
      | exact ih0 _ _ _ _ _ _ _ _ _ _ _
      | exact formelaw03_usable.mono _ _ _
      | exact LeO.none _
      | refine LeO.ite ?_ ?_
      | refine LeO.bind ?_ (fun _ => ?_)
def formelaw03_ZoneCount.T12 : Bool × List (List Nat × List Nat) := (true, [([], []), ([0], [0]), ([1], [1]), ([2], [2]), ([2], [2]), ([4, 2], [2, 4]), ([3, 5, 2], [2, 3, 5]), ([6, 2], [2, 6]), ([7, 2, 2], [2, 7]), ([2], [2]), ([9, 8, 2], [2, 9]), ([8, 10, 10, 2], [2, 8, 10]), ([11, 2], [2, 11]), ([2, 12], [2, 12])])
def formelaw03_ZoneCount.B12 : List Nat := [0, 1, 3, 7, 7, 23, 63, 127, 255, 7, 1023, 2047, 4095, 8191]
theorem formelaw03_ZoneCount.tab12 : rtab .any (opsOf Try.f6 12) = formelaw03_ZoneCount.T12 := by kernel_rfl
theorem formelaw03_ZoneCount.bits12 : waitsOk formelaw03_ZoneCount.T12.2 formelaw03_ZoneCount.B12 = true := by kernel_rfl
end
section
def zone_Union.f (l0 l1 : List S35) : Option (List S35 × Int) := some (formR l0 l1 (bothP l0 l1 0))
end
section
def formelaw03_ZoneSets.j0 : Nat → List (S35) → List (S35) → Bool → Bool → Int → Int → Int → Option (Bool)
  | 0, _, _, _, _, _, _, _ => none
  | k + 1, x0, x1, x7, x33, x387000, x387001, x387002 => if x33 = true then (some x7) else ((zone_Union.f x0 x1).bind fun bt390 => ((zone_Meet.f x0 x1).bind fun bt394 => ((zone_Less.f x0 x1).bind fun bt398 => ((zone_Has.f x0 x387000 x387001 x387002).bind fun bt402 => ((zone_Has.f x1 x387000 x387001 x387002).bind fun bt404 => ((zone_Has.f bt390.1 x387000 x387001 x387002).bind fun bt406 => ((zone_Has.f bt394.1 x387000 x387001 x387002).bind fun bt408 => ((zone_Has.f bt398.1 x387000 x387001 x387002).bind fun bt410 => (if bt390.2 = 0 then (if bt394.2 = 0 then (if bt398.2 = 0 then (if x7 = true then (if bt402.2 = 0 then (if bt404.2 = 0 then (if bt406.2 = 0 then (if bt408.2 = 0 then (if bt410.2 = 0 then (if bt402.1 = true then (if (bt406.1 == true) = true then (if (bt408.1 == bt404.1) = true then (some (bt410.1 == (!bt404.1))) else (some false)) else (some false)) else (if (bt406.1 == bt404.1) = true then (if (bt408.1 == false) = true then (some (bt410.1 == false)) else (some false)) else (some false))) else (some false)) else (some false)) else (some false)) else (some false)) else (some false)) else (some false)) else (some false)) else (some false)) else (some false))))))))))
def formelaw03_ZoneSets.f (k : Nat) (l0 : List (S35)) (l1 : List (S35)) (a2_0 : Int) (a2_1 : Int) (a2_2 : Int) : Option (Bool) := (formelaw03_head.f).bind fun t387 => ((formelaw03_usable.f k l0 l1).bind fun t388 => (if t388 = true then ((formeref03_Reader.f a2_0 a2_1 a2_2).bind fun t389 => (formelaw03_ZoneSets.j0 k l0 l1 t387 (!t389) a2_0 a2_1 a2_2)) else (formelaw03_ZoneSets.j0 k l0 l1 t387 true a2_0 a2_1 a2_2)))
theorem formelaw03_ZoneSets.mono_l : ∀ k, (∀ y0 y1 y2 y3 y4 y5 y6, LeO (formelaw03_ZoneSets.j0 k y0 y1 y2 y3 y4 y5 y6) (formelaw03_ZoneSets.j0 (k + 1) y0 y1 y2 y3 y4 y5 y6))
  | 0 => fun _ _ _ _ _ _ _ r h => by simp [formelaw03_ZoneSets.j0] at h
  | k + 1 => by
    have ih0 := formelaw03_ZoneSets.mono_l k
    · intro y0 y1 y2 y3 y4 y5 y6
      unfold formelaw03_ZoneSets.j0
      repeat' first
      | (with_reducible exact ih0 _ _ _ _ _ _ _)
      | (with_reducible exact formelaw03_usable.mono _ _ _)
      | (with_reducible exact LeO.refl _)
      | (with_reducible exact LeO.none _)
      | (with_reducible refine LeO.ite ?_ ?_)
      | (with_reducible refine LeO.bind ?_ (fun _ => ?_))
      | exact ih0 _ _ _ _ _ _ _
      | exact formelaw03_usable.mono _ _ _
      | exact LeO.none _
      | refine LeO.ite ?_ ?_
      | refine LeO.bind ?_ (fun _ => ?_)
theorem formelaw03_ZoneSets.mono : ∀ a0 a1 a2 a3 a4 k, LeO (formelaw03_ZoneSets.f k a0 a1 a2 a3 a4) (formelaw03_ZoneSets.f (k + 1) a0 a1 a2 a3 a4) := by
  intro a0 a1 a2 a3 a4 k
  have ih0 := formelaw03_ZoneSets.mono_l k
  unfold formelaw03_ZoneSets.f
  repeat' first
      | (with_reducible exact ih0 _ _ _ _ _ _ _)
      | (with_reducible exact formelaw03_usable.mono _ _ _)
      | (with_reducible exact LeO.refl _)
      | (with_reducible exact LeO.none _)
      | (with_reducible refine LeO.ite ?_ ?_)
      | (with_reducible refine LeO.bind ?_ (fun _ => ?_))
      | exact ih0 _ _ _ _ _ _ _
      | exact formelaw03_usable.mono _ _ _
      | exact LeO.none _
      | refine LeO.ite ?_ ?_
      | refine LeO.bind ?_ (fun _ => ?_)
def formelaw03_ZoneSums.j0 : Nat → List (S35) → List (S35) → Bool → List (S35) → List (S35) → List (S35) → Bool → Option (Bool)
  | 0, _, _, _, _, _, _, _ => none
  | k + 1, x0, x1, x5, x6, x8, x10, x57 => if x57 = true then (some false) else ((zone_Count.f x0).bind fun bt426 => ((zone_Count.f x1).bind fun bt428 => ((zone_Count.f x6).bind fun bt430 => ((zone_Count.f x8).bind fun bt432 => ((zone_Union.f x8 x10).bind fun bt434 => ((zone_Canon.f x0).bind fun bt438 => (if x5 = true then (if bt426.2 = 0 then (if bt428.2 = 0 then (if bt430.2 = 0 then (if bt432.2 = 0 then (if bt434.2 = 0 then (if bt438.2 = 0 then (if (wrap64 (bt426.1 + bt428.1)) = (wrap64 (bt430.1 + bt432.1)) then ((formeref03_Same.f k bt434.1 bt438.1).bind fun t442 => (some t442)) else (some false)) else (some false)) else (some false)) else (some false)) else (some false)) else (some false)) else (some false)) else (some false))))))))
def formelaw03_ZoneSums.f (k : Nat) (l0 : List (S35)) (l1 : List (S35)) : Option (Bool) := (formelaw03_head.f).bind fun t412 => ((formelaw03_usable.f k l0 l1).bind fun t413 => (if t413 = true then ((zone_Union.f l0 l1).bind fun bt414 => ((zone_Meet.f l0 l1).bind fun bt418 => ((zone_Less.f l0 l1).bind fun bt422 => (if bt414.2 = 0 then (if bt418.2 = 0 then (formelaw03_ZoneSums.j0 k l0 l1 t412 bt414.1 bt418.1 bt422.1 (bt422.2 != 0)) else (formelaw03_ZoneSums.j0 k l0 l1 t412 bt414.1 bt418.1 bt422.1 true)) else (formelaw03_ZoneSums.j0 k l0 l1 t412 bt414.1 bt418.1 bt422.1 true))))) else (some t412)))
theorem formelaw03_ZoneSums.mono_l : ∀ k, (∀ y0 y1 y2 y3 y4 y5 y6, LeO (formelaw03_ZoneSums.j0 k y0 y1 y2 y3 y4 y5 y6) (formelaw03_ZoneSums.j0 (k + 1) y0 y1 y2 y3 y4 y5 y6))
  | 0 => fun _ _ _ _ _ _ _ r h => by simp [formelaw03_ZoneSums.j0] at h
  | k + 1 => by
    have ih0 := formelaw03_ZoneSums.mono_l k
    · intro y0 y1 y2 y3 y4 y5 y6
      unfold formelaw03_ZoneSums.j0
      repeat' first
      | (with_reducible exact ih0 _ _ _ _ _ _ _)
      | (with_reducible exact formelaw03_usable.mono _ _ _)
      | (with_reducible exact formeref03_Same.mono _ _ _)
      | (with_reducible exact LeO.refl _)
      | (with_reducible exact LeO.none _)
      | (with_reducible refine LeO.ite ?_ ?_)
      | (with_reducible refine LeO.bind ?_ (fun _ => ?_))
      | exact ih0 _ _ _ _ _ _ _
      | exact formelaw03_usable.mono _ _ _
      | exact formeref03_Same.mono _ _ _
      | exact LeO.none _
      | refine LeO.ite ?_ ?_
      | refine LeO.bind ?_ (fun _ => ?_)
theorem formelaw03_ZoneSums.mono : ∀ a0 a1 k, LeO (formelaw03_ZoneSums.f k a0 a1) (formelaw03_ZoneSums.f (k + 1) a0 a1) := by
  intro a0 a1 k
  have ih0 := formelaw03_ZoneSums.mono_l k
  unfold formelaw03_ZoneSums.f
  repeat' first
      | (with_reducible exact ih0 _ _ _ _ _ _ _)
      | (with_reducible exact formelaw03_usable.mono _ _ _)
      | (with_reducible exact formeref03_Same.mono _ _ _)
      | (with_reducible exact LeO.refl _)
      | (with_reducible exact LeO.none _)
      | (with_reducible refine LeO.ite ?_ ?_)
      | (with_reducible refine LeO.bind ?_ (fun _ => ?_))
      | exact ih0 _ _ _ _ _ _ _
      | exact formelaw03_usable.mono _ _ _
      | exact formeref03_Same.mono _ _ _
      | exact LeO.none _
      | refine LeO.ite ?_ ?_
      | refine LeO.bind ?_ (fun _ => ?_)
end

end Go.Proofs.Ytacohlafmbhcdaa.PAll
