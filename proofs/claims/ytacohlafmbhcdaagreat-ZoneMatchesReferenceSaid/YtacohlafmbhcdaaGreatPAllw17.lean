/- Printed by a program of this session (wip/gprint.py) over the translation, cut to what is named (wip/dcut.py). Not trusted: Lean checks it. -/
import Derived.Test.YtacohlafmbhcdaaGreatPAlld1
import Derived.Test.YtacohlafmbhcdaaGreatPAllw1
import Derived.Test.YtacohlafmbhcdaaGreatPAllw2
import Derived.Test.YtacohlafmbhcdaaGreatPAllw15
namespace Go.Proofs.YtacohlafmbhcdaaGreat.PAll
open Go.RowKit Go.Proofs.YtacohlafmbhcdaaGreatW.PrintWords Go.Proofs.YtacohlafmbhcdaaGreatW.PrintLast Go.Proofs.YtacohlafmbhcdaaGreatW.PrintMore
attribute [local go_sem] max2_int min2_int max_two min_two max_three min_three max_four min_four -- for this text's walks alone
set_option linter.unusedVariables false
set_option linter.unusedSimpArgs false
open Go.Proofs.YtacohlafmbhcdaaGreatGlib
set_option maxHeartbeats 4000000 in
set_option maxRecDepth 100000 in
theorem in_calls (g : Nat) (width scale lang : Int) (z : S42) (w : World) (hg : Reads3 g width scale lang w) :
  Calls Tryz.prog 26 (#[aggZ z] ++ #[.pointer (some ⟨g, 0, none⟩)]) w fun e w' => e = .returned (.bool (inB width scale lang z)) ∧ Below w.heap.size w w' := by
 have hlt := World.block_lt_of_cell? w _ hg.1
 simp only at hlt
 obtain ⟨g0, g1, g2⟩ := hg
 have H1 := Aside0.mk (fun W => zone_has.calls z.f1.f0 z.f1.f1 scale _ W (has_of z.f1 scale))
 have H2 := Aside0.mk (fun W => zone_has.calls z.f2.f0 z.f2.f1 width _ W (has_of z.f2 width))
 unfold inB aggZ
 generalize (decide (z.f1.f0 ≤ scale) && decide (scale ≤ z.f1.f1)) = b1 at *
 generalize (decide (z.f2.f0 ≤ width) && decide (width ≤ z.f2.f1)) = b2 at *
 have HB := Aside0.mk (below_alloc (Below.refl w.heap.size w) (.cells #[.int .i64 z.f0, .int .i64 z.f1.f0, .int .i64 z.f1.f1, .int .i64 z.f2.f0, .int .i64 z.f2.f1] 42))
 simp only [List.append_toArray, List.cons_append, List.nil_append]
 by_cases h : z.f0 = lang
 · have d : (z.f0 == lang) = true := beq_iff_eq.mpr h
   rw [decide_eq_true h]
   clear h
   cases b1 with
   | true =>
    go_enter Tryz.func26, Tryz.ntmps26
    go_wp2_with (go_at_call 27; with_reducible refine (H1.out _).mono ?_; rintro e w2 ⟨rfl, hb⟩; have n0_ := Aside0.mk (below_step HB.out hb); have y3 := (hb.cell (p := ⟨w.heap.size, 3, none⟩) (by simp)).trans ((blk_cell (blk_new w _) 3).trans rfl); have y4 := (hb.cell (p := ⟨w.heap.size, 4, none⟩) (by simp)).trans ((blk_cell (blk_new w _) 4).trans rfl); clear HB; have HB := n0_; clear n0_ hb; have k0 := (HB.out.cell (p := ⟨g, 0, none⟩) hlt).trans g0)
    go_wp2_with (go_at_call 27; with_reducible refine (H2.out _).mono ?_; rintro e w3 ⟨rfl, hb⟩; have n0_ := Aside0.mk (below_step HB.out hb); clear HB; have HB := n0_; clear n0_ hb)
    go_ret
    exact ⟨rfl, HB.out⟩
   | false =>
    go_enter Tryz.func26, Tryz.ntmps26
    go_wp2_with (go_at_call 27; with_reducible refine (H1.out _).mono ?_; rintro e w2 ⟨rfl, hb⟩; have n0_ := Aside0.mk (below_step HB.out hb); have y3 := (hb.cell (p := ⟨w.heap.size, 3, none⟩) (by simp)).trans ((blk_cell (blk_new w _) 3).trans rfl); have y4 := (hb.cell (p := ⟨w.heap.size, 4, none⟩) (by simp)).trans ((blk_cell (blk_new w _) 4).trans rfl); clear HB; have HB := n0_; clear n0_ hb; have k0 := (HB.out.cell (p := ⟨g, 0, none⟩) hlt).trans g0)
    go_ret
    exact ⟨rfl, HB.out⟩
 · have d : (z.f0 == lang) = false := beq_eq_false_iff_ne.mpr h
   rw [decide_eq_false h]
   clear h
   go_enter Tryz.func26, Tryz.ntmps26
   go_wp2
   go_ret
   exact ⟨rfl, HB.out⟩
set_option maxHeartbeats 4000000 in
set_option maxRecDepth 100000 in
theorem has_calls (A : Option Addr) (c : Nat) (l : List S42) (width scale lang : Int) (w : World) (hr : Kd.C k42 w A l.length l) (hc : l.length ≤ c) :
  Calls Tryz.prog 5 #[.slice A l.length c, .agg #[.int .i64 width, .int .i64 scale, .int .i64 lang]] w fun e w' => e = .returned (.tuple #[.bool (hasP l width scale lang).1, .int .i64 (hasP l width scale lang).2]) ∧ Below w.heap.size w w' := by
 have HX := Aside0.mk (fun W h hi => containsZ_calls 26 #[.pointer (some ⟨w.heap.size, 0, none⟩)] enters26 (inB width scale lang) (Reads3 w.heap.size width scale lang) (fun _ _ h hb => h.below hb) (fun z W h => in_calls w.heap.size width scale lang z W h) A c l W h hc hi)
 have VX := Aside0.mk (fun W h => valid_calls A c l W h hc)
 have OX := Aside0.mk (fun W => zone_one.calls width scale lang lang scale scale width width W rfl)
 have WX := Aside0.mk (fun W => zone_valid.calls lang scale scale width width (readerB width scale lang) W (valid_of ⟨lang, ⟨scale, scale⟩, ⟨width, width⟩⟩))
 have HR := Aside0.mk hr
 have HB := Aside0.mk (below_alloc (Below.refl w.heap.size w) (.cells #[.int .i64 width, .int .i64 scale, .int .i64 lang] 24))
 have HC := Aside0.mk (show Reads3 w.heap.size width scale lang (w.alloc (.cells #[.int .i64 width, .int .i64 scale, .int .i64 lang] 24)) from ⟨(blk_cell (blk_new w _) 0).trans rfl, (blk_cell (blk_new w _) 1).trans rfl, (blk_cell (blk_new w _) 2).trans rfl⟩)
 clear hr
 unfold hasP
 generalize validP l = b1 at *
 generalize readerB width scale lang = b2 at *
 generalize l.any (inB width scale lang) = b3 at *
 cases b1 with
 | false =>
  go_enter Tryz.func5, Tryz.ntmps5
  go_wp2_with (go_at_call 7; with_reducible refine (VX.out _ ?s1).mono ?_; (case s1 => exact Kd.C_below HR.out HB.out); rintro e w2 ⟨rfl, hb⟩; have n0_ := Aside0.mk (below_step HB.out hb); have n1_ := Aside0.mk (HC.out.below hb); clear HB HC; have HB := n0_; have HC := n1_; clear n0_ n1_ hb; (try clear m0); (try clear m1); (try clear m2); have m0 := HC.out.c0; have m1 := HC.out.c1; have m2 := HC.out.c2)
  go_ret2
  exact ⟨rfl, HB.out⟩
 | true =>
  cases b2 with
  | false =>
   go_enter Tryz.func5, Tryz.ntmps5
   go_wp2_with (go_at_call 7; with_reducible refine (VX.out _ ?s1).mono ?_; (case s1 => exact Kd.C_below HR.out HB.out); rintro e w2 ⟨rfl, hb⟩; have n0_ := Aside0.mk (below_step HB.out hb); have n1_ := Aside0.mk (HC.out.below hb); clear HB HC; have HB := n0_; have HC := n1_; clear n0_ n1_ hb; (try clear m0); (try clear m1); (try clear m2); have m0 := HC.out.c0; have m1 := HC.out.c1; have m2 := HC.out.c2)
   go_wp2_with (go_at_call 24; with_reducible refine (OX.out _).mono ?_; rintro e w2 ⟨rfl, hb⟩; have n0_ := Aside0.mk (below_step HB.out hb); have n1_ := Aside0.mk (HC.out.below hb); clear HB HC; have HB := n0_; have HC := n1_; clear n0_ n1_ hb; (try clear m0); (try clear m1); (try clear m2); have m0 := HC.out.c0; have m1 := HC.out.c1; have m2 := HC.out.c2)
   go_wp2_with (go_at_call 23; with_reducible refine (WX.out _).mono ?_; rintro e w2 ⟨rfl, hb⟩; have n0_ := Aside0.mk (below_step HB.out hb); have n1_ := Aside0.mk (HC.out.below hb); clear HB HC; have HB := n0_; have HC := n1_; clear n0_ n1_ hb; (try clear m0); (try clear m1); (try clear m2); have m0 := HC.out.c0; have m1 := HC.out.c1; have m2 := HC.out.c2)
   go_ret2
   exact ⟨rfl, HB.out⟩
  | true =>
   go_enter Tryz.func5, Tryz.ntmps5
   go_wp2_with (go_at_call 7; with_reducible refine (VX.out _ ?s1).mono ?_; (case s1 => exact Kd.C_below HR.out HB.out); rintro e w2 ⟨rfl, hb⟩; have n0_ := Aside0.mk (below_step HB.out hb); have n1_ := Aside0.mk (HC.out.below hb); clear HB HC; have HB := n0_; have HC := n1_; clear n0_ n1_ hb; (try clear m0); (try clear m1); (try clear m2); have m0 := HC.out.c0; have m1 := HC.out.c1; have m2 := HC.out.c2)
   go_wp2_with (go_at_call 24; with_reducible refine (OX.out _).mono ?_; rintro e w2 ⟨rfl, hb⟩; have n0_ := Aside0.mk (below_step HB.out hb); have n1_ := Aside0.mk (HC.out.below hb); clear HB HC; have HB := n0_; have HC := n1_; clear n0_ n1_ hb; (try clear m0); (try clear m1); (try clear m2); have m0 := HC.out.c0; have m1 := HC.out.c1; have m2 := HC.out.c2)
   go_wp2_with (go_at_call 23; with_reducible refine (WX.out _).mono ?_; rintro e w2 ⟨rfl, hb⟩; have n0_ := Aside0.mk (below_step HB.out hb); have n1_ := Aside0.mk (HC.out.below hb); clear HB HC; have HB := n0_; have HC := n1_; clear n0_ n1_ hb; (try clear m0); (try clear m1); (try clear m2); have m0 := HC.out.c0; have m1 := HC.out.c1; have m2 := HC.out.c2)
   go_wp2_with (go_at_call 25; with_reducible refine (HX.out _ ?s1 HC.out).mono ?_; (case s1 => exact Kd.C_below HR.out HB.out); rintro e w2 ⟨rfl, hb⟩; have n0_ := Aside0.mk (below_step HB.out hb); have n1_ := Aside0.mk (HC.out.below hb); clear HB HC; have HB := n0_; have HC := n1_; clear n0_ n1_ hb; (try clear m0); (try clear m1); (try clear m2); have m0 := HC.out.c0; have m1 := HC.out.c1; have m2 := HC.out.c2)
   go_ret2
   exact ⟨rfl, HB.out⟩
theorem zone_Has.calls (A0 : Option Addr) (c0 : Nat) (l0 : List (S42)) (a1_0 a1_1 a1_2 : Int) (r1 : Bool) (r2 : Int) (w : World) (hr0 : Kd.C k42 w A0 l0.length l0) (hc0 : l0.length ≤ c0) (h : zone_Has.f l0 a1_0 a1_1 a1_2 = some (r1, r2)) :
  Calls Tryz.prog 5 #[.slice A0 l0.length c0, .agg #[.int .i64 a1_0, .int .i64 a1_1, .int .i64 a1_2]] w fun e w' => e = .returned (.tuple #[.bool r1, .int .i64 r2]) ∧ Below w.heap.size w w' := by
 have h1 : hasP l0 a1_0 a1_1 a1_2 = (r1, r2) := Option.some.inj h
 have h2 := has_calls A0 c0 l0 a1_0 a1_1 a1_2 w hr0 hc0
 rw [h1] at h2
 exact h2
end Go.Proofs.YtacohlafmbhcdaaGreat.PAll
