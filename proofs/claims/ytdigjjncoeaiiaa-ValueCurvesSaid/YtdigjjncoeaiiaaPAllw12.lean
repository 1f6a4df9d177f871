/- Printed by a program of this session (wip/gprint.py) over the translation, cut to what is named (wip/dcut.py). Not trusted: Lean checks it. -/
import Derived.Test.YtdigjjncoeaiiaaPAlld0
import Derived.Test.YtdigjjncoeaiiaaPAllw7
namespace Go.Proofs.Ytdigjjncoeaiiaa.PAll
open Go.RowKit Go.Proofs.YtdigjjncoeaiiaaW.PrintWords Go.Proofs.YtdigjjncoeaiiaaW.PrintLast Go.Proofs.YtdigjjncoeaiiaaW.PrintMore
attribute [local go_sem] max2_int min2_int max_two min_two max_three min_three max_four min_four -- for this text's walks alone
set_option linter.unusedVariables false
set_option linter.unusedSimpArgs false
section
set_option maxHeartbeats 8000000 in
set_option maxRecDepth 100000 in
theorem quot_Fit_1.calls (k : Nat) (a0_0 : Int) (a0_1 : Int) (a0_2 : Int) (a1_0 : Int) (a1_1 : Int) (a1_2 : Int) (r : Bool) (w : World) (h : quot_Fit_1.f k a0_0 a0_1 a0_2 a1_0 a1_1 a1_2 = some r) :
  Calls Try.prog 109 #[.agg #[.int .i64 a0_0, .int .i64 a0_1, .int .i64 a0_2], .agg #[.int .i64 a1_0, .int .i64 a1_1, .int .i64 a1_2]] w fun e w' => e = .returned (.bool r) ∧ Below w.heap.size w w' := by
 have hu55 := Try.underlying55
 have HB := Aside0.mk (Below.refl w.heap.size w)
 have H : ((cmp_Compare_int.f (mx a0_0 (wrap64 (-a0_0))) (mx a1_0 (wrap64 (-a1_0)))).bind fun t133 => ((cmp_Compare_int.f a0_0 a1_0).bind fun t134 => ((cmp_Or_int.f k (([t133, t134] : List Int))).bind fun t138 => (some (decide (t138 < 0)))))) = some r := h
 clear h
 obtain ⟨ji3, hji3⟩ : ∃ j_ : Int, (mx a0_0 (wrap64 (-a0_0))) = j_ := ⟨_, rfl⟩
 replace H : ((cmp_Compare_int.f (ji3) (mx a1_0 (wrap64 (-a1_0)))).bind fun t133 => ((cmp_Compare_int.f a0_0 a1_0).bind fun t134 => ((cmp_Or_int.f k (([t133, t134] : List Int))).bind fun t138 => (some (decide (t138 < 0)))))) = some r := by first | (rw [hji3] at H; exact H) | (simp only [hji3] at H ⊢; exact H)
 have hji3_ : (if a0_0 < (wrap64 (-a0_0)) then (wrap64 (-a0_0)) else a0_0) = ji3 := hji3
 obtain ⟨ji4, hji4⟩ : ∃ j_ : Int, (mx a1_0 (wrap64 (-a1_0))) = j_ := ⟨_, rfl⟩
 replace H : ((cmp_Compare_int.f (ji3) (ji4)).bind fun t133 => ((cmp_Compare_int.f a0_0 a1_0).bind fun t134 => ((cmp_Or_int.f k (([t133, t134] : List Int))).bind fun t138 => (some (decide (t138 < 0)))))) = some r := by first | (rw [hji4] at H; exact H) | (simp only [hji4] at H ⊢; exact H)
 have hji4_ : (if a1_0 < (wrap64 (-a1_0)) then (wrap64 (-a1_0)) else a1_0) = ji4 := hji4
 replace H := Option.bind_eq_some_iff.mp H
 obtain ⟨t133, A50, H⟩ := H
 replace H : ((cmp_Compare_int.f a0_0 a1_0).bind fun t134 => ((cmp_Or_int.f k (([t133, t134] : List Int))).bind fun t138 => (some (decide (t138 < 0))))) = some r := H
 have A5 := Aside0.mk A50
 clear A50
 replace H := Option.bind_eq_some_iff.mp H
 obtain ⟨t134, A60, H⟩ := H
 replace H : ((cmp_Or_int.f k (([t133, t134] : List Int))).bind fun t138 => (some (decide (t138 < 0)))) = some r := H
 have A6 := Aside0.mk A60
 clear A60
 obtain ⟨y135, hy135⟩ : ∃ y_ : List Int, y_ = (([t133, t134] : List Int)) := ⟨_, rfl⟩
 replace H : ((cmp_Or_int.f k y135).bind fun t138 => (some (decide (t138 < 0)))) = some r := by first | (rw [hy135]; with_reducible exact H) | (have H2_ := (Option.bind_some _ _).symm.trans H; rw [hy135]; with_reducible exact H2_) | (have H2_ := (Option.bind_some _ _).symm.trans H; with_reducible exact H2_) | with_reducible exact H | (rw [hy135]; exact H) | exact H
 have Ny135 := Aside0.mk hy135
 clear hy135
 replace H := Option.bind_eq_some_iff.mp H
 obtain ⟨t138, A70, H⟩ := H
 replace H : (some (decide (t138 < 0))) = some r := H
 have A7 := Aside0.mk A70
 clear A70
 obtain rfl := Option.some.inj H
 go_enter Try.func109, Try.ntmps109
 try go_wp2_with (first | ((with_reducible refine gate_dst (N := 2) rfl ?_); refine box_event ?hg (N := 2) ?hd (cs := #[.int .i64 a0_0, .int .i64 a0_1, .int .i64 a0_2]) (t := 55) ?hr ?_; (case hd => rfl); (case hg => rfl); (case hr => first | (go_simp; done) | (go_simp; rfl)); intro gb131 hg w8 hbox hb; have BK131 := Aside0.mk (hbox); have GW131 := Aside0.mk ((by rw [hg]; exact (below_size (by repeat (first | (with_reducible first | exact HB.out | apply below_alloc | apply pw_below_drewN | apply below_drew1) | exact HB.out))) : w.heap.size ≤ gb131)); have GE131 := Aside0.mk ((by rw [hg]; exact (below_size (by repeat (first | (with_reducible first | exact HB.out | apply below_alloc | apply pw_below_drewN | apply below_drew1) | exact HB.out))) : w.heap.size ≤ gb131)); replace HB := Aside0.mk (below_step (by repeat (first | (with_reducible first | exact HB.out | apply below_alloc | apply pw_below_drewN | apply below_drew1) | exact HB.out)) hb); clear hb hbox hg) | ((with_reducible refine gate_dst (N := 3) rfl ?_); refine box_event ?hg (N := 3) ?hd (cs := #[.int .i64 a1_0, .int .i64 a1_1, .int .i64 a1_2]) (t := 55) ?hr ?_; (case hd => rfl); (case hg => rfl); (case hr => first | (go_simp; done) | (go_simp; rfl)); intro gb132 hg w9 hbox hb; have BK132 := Aside0.mk (hbox); have GW132 := Aside0.mk ((by rw [hg]; exact (below_size (by repeat (first | (with_reducible first | exact HB.out | apply below_alloc | apply pw_below_drewN | apply below_drew1 | refine below_set ?_ GE131.out) | exact HB.out))) : w.heap.size ≤ gb132)); have GE132 := Aside0.mk ((by rw [hg]; exact (below_size (by repeat (first | (with_reducible first | exact HB.out | apply below_alloc | apply pw_below_drewN | apply below_drew1 | refine below_set ?_ GE131.out) | exact HB.out))) : w.heap.size ≤ gb132)); replace HB := Aside0.mk (below_step (by repeat (first | (with_reducible first | exact HB.out | apply below_alloc | apply pw_below_drewN | apply below_drew1 | refine below_set ?_ GE131.out) | exact HB.out)) hb); have NB131_132 := Aside0.mk ((by rw [hg]; exact Nat.ne_of_lt (blk_lt (g := gb131) (o := .cells #[.int .i64 a0_0, .int .i64 a0_1, .int .i64 a0_2] 55 (0, 0)) (by (with_reducible repeat (first | refine blk_drewN ?_ _ | refine blk_drew ?_ | refine blk_alloc ?_ _)); exact BK131.out)) : gb131 ≠ gb132)); have NB132_131 := Aside0.mk ((by rw [hg]; exact Nat.ne_of_gt (blk_lt (g := gb131) (o := .cells #[.int .i64 a0_0, .int .i64 a0_1, .int .i64 a0_2] 55 (0, 0)) (by (with_reducible repeat (first | refine blk_drewN ?_ _ | refine blk_drew ?_ | refine blk_alloc ?_ _)); exact BK131.out)) : gb132 ≠ gb131)); replace BK131 := Aside0.mk (blk_below (g := gb131) (o := .cells #[.int .i64 a0_0, .int .i64 a0_1, .int .i64 a0_2] 55 (0, 0)) (by (with_reducible repeat (first | refine blk_drewN ?_ _ | refine blk_drew ?_ | refine blk_alloc ?_ _)); exact BK131.out) hb); clear hb hbox hg))
 replace BK131 := Aside0.mk (blk_drew BK131.out)
 replace BK132 := Aside0.mk (blk_drew BK132.out)
 replace HB := Aside0.mk (below_drew1 HB.out)
 refine start_ (n := 22) (S := fun w' => w'.cell? ⟨gb131, 0, none⟩ = some (.int .i64 a0_0) ∧ w'.cell? ⟨gb131, 1, none⟩ = some (.int .i64 a0_1) ∧ w'.cell? ⟨gb131, 2, none⟩ = some (.int .i64 a0_2) ∧ w'.cell? ⟨gb132, 0, none⟩ = some (.int .i64 a1_0) ∧ w'.cell? ⟨gb132, 1, none⟩ = some (.int .i64 a1_1) ∧ w'.cell? ⟨gb132, 2, none⟩ = some (.int .i64 a1_2)) (ds := []) #[false, false, false, false, false, false, false, false, false, false, false, false, false, false, false, false, false, false, false, false, false, false] (by kernel_rfl) rfl rfl ⟨(blk_cell BK131.out 0).trans rfl, (blk_cell BK131.out 1).trans rfl, (blk_cell BK131.out 2).trans rfl, (blk_cell BK132.out 0).trans rfl, (blk_cell BK132.out 1).trans rfl, (blk_cell BK132.out 2).trans rfl⟩ (fun hHeld => ?_); refine with_tabW quot_Fit_1.tab1 quot_Fit_1.bits1 (fun HT_ HW_ => ?_)
 generalize w9.drew = w10 at BK131 BK132 HB hHeld ⊢
 refine pure_ (i := 0) (N := some 5) (v := ?_) (a' := ?_) #[true, false, false, false, false, false, false, false, false, false, false, false, false, false, false, false, false, false, false, false, false, false] rfl rfl (any_of HT_.out (by kernel_rfl)) (fun _ _ _ h => h) (Or.inl ⟨by rfl, ?_⟩) ?_ ?_
 rotate_left
 · intro w'
   go_simp
   with_reducible rfl
 rotate_left
 · simp only [Act.put, List.setIfInBounds_toArray, List.set_cons_zero, List.set_cons_succ, i64_w, i32_w]
   rfl
 refine pure_ (i := 2) (N := some 7) (v := ?_) (a' := ?_) #[true, false, true, false, false, false, false, false, false, false, false, false, false, false, false, false, false, false, false, false, false, false] rfl rfl (any_of HT_.out (by kernel_rfl)) (fun _ _ _ h => h) (Or.inl ⟨by rfl, ?_⟩) ?_ ?_
 rotate_left
 · intro w'
   go_simp
   with_reducible rfl
 rotate_left
 · simp only [Act.put, List.setIfInBounds_toArray, List.set_cons_zero, List.set_cons_succ, i64_w, i32_w]
   rfl
 refine pure_ (i := 6) (N := some 11) (v := ?_) (a' := ?_) #[true, false, true, false, false, false, true, false, false, false, false, false, false, false, false, false, false, false, false, false, false, false] rfl rfl (any_of HT_.out (by kernel_rfl)) (fun _ _ _ h => h) (Or.inl ⟨by rfl, ?_⟩) ?_ ?_
 rotate_left
 · intro w'
   go_simp
   with_reducible rfl
 rotate_left
 · simp only [Act.put, List.setIfInBounds_toArray, List.set_cons_zero, List.set_cons_succ, i64_w, i32_w]
   rfl
 refine pure_ (i := 8) (N := some 13) (v := ?_) (a' := ?_) #[true, false, true, false, false, false, true, false, true, false, false, false, false, false, false, false, false, false, false, false, false, false] rfl rfl (any_of HT_.out (by kernel_rfl)) (fun _ _ _ h => h) (Or.inl ⟨by rfl, ?_⟩) ?_ ?_
 rotate_left
 · intro w'
   go_simp
   with_reducible rfl
 rotate_left
 · simp only [Act.put, List.setIfInBounds_toArray, List.set_cons_zero, List.set_cons_succ, i64_w, i32_w]
   rfl
 refine pure_ (i := 13) (N := some 18) (v := ?_) (a' := ?_) #[true, false, true, false, false, false, true, false, true, false, false, false, false, true, false, false, false, false, false, false, false, false] rfl rfl (any_of HT_.out (by kernel_rfl)) (fun _ _ _ h => h) (Or.inl ⟨by rfl, ?_⟩) ?_ ?_
 rotate_left
 · intro w'
   go_simp
   with_reducible rfl
 rotate_left
 · simp only [Act.put, List.setIfInBounds_toArray, List.set_cons_zero, List.set_cons_succ, i64_w, i32_w]
   rfl
 refine pure_ (i := 15) (N := some 20) (v := ?_) (a' := ?_) #[true, false, true, false, false, false, true, false, true, false, false, false, false, true, false, true, false, false, false, false, false, false] rfl rfl (any_of HT_.out (by kernel_rfl)) (fun _ _ _ h => h) (Or.inl ⟨by rfl, ?_⟩) ?_ ?_
 rotate_left
 · intro w'
   go_simp
   with_reducible rfl
 rotate_left
 · simp only [Act.put, List.setIfInBounds_toArray, List.set_cons_zero, List.set_cons_succ, i64_w, i32_w]
   rfl
 refine take_ (i := 1) (N := some 6) (v := ?_) (a' := ?_) #[true, true, true, false, false, false, true, false, true, false, false, false, false, true, false, true, false, false, false, false, false, false] rfl rfl (take_ofW HT_.out HW_.out (by kernel_rfl)) (fun _ _ _ h => h) (Or.inl ⟨by rfl, ?_⟩) hHeld ?_ ?_
 rotate_left
 · rintro w' ⟨s0, s1, s2, s3, s4, s5⟩
   go_simp
   with_reducible rfl
 rotate_left
 · simp only [Act.put, List.setIfInBounds_toArray, List.set_cons_zero, List.set_cons_succ, i64_w, i32_w]
   rfl
 refine take_ (i := 3) (N := some 8) (v := ?_) (a' := ?_) #[true, true, true, true, false, false, true, false, true, false, false, false, false, true, false, true, false, false, false, false, false, false] rfl rfl (take_ofW HT_.out HW_.out (by kernel_rfl)) (fun _ _ _ h => h) (Or.inl ⟨by rfl, ?_⟩) hHeld ?_ ?_
 rotate_left
 · rintro w' ⟨s0, s1, s2, s3, s4, s5⟩
   go_simp
   with_reducible rfl
 rotate_left
 · simp only [Act.put, List.setIfInBounds_toArray, List.set_cons_zero, List.set_cons_succ, i64_w, i32_w]
   rfl
 refine pure_ (i := 4) (N := some 9) (v := ?_) (a' := ?_) #[true, true, true, true, true, false, true, false, true, false, false, false, false, true, false, true, false, false, false, false, false, false] rfl rfl (any_of HT_.out (by kernel_rfl)) (fun _ _ _ h => h) (Or.inl ⟨by rfl, ?_⟩) ?_ ?_
 rotate_left
 · intro w'
   go_simp
   with_reducible rfl
 rotate_left
 · simp only [Act.put, List.setIfInBounds_toArray, List.set_cons_zero, List.set_cons_succ, i64_w, i32_w]
   rfl
 refine pure_ (i := 5) (N := some 10) (v := ?_) (a' := ?_) #[true, true, true, true, true, true, true, false, true, false, false, false, false, true, false, true, false, false, false, false, false, false] rfl rfl (any_of HT_.out (by kernel_rfl)) (fun _ _ _ h => h) (Or.inl ⟨by rfl, ?_⟩) ?_ ?_
 rotate_left
 · intro w'
   go_simp
   with_reducible rfl
 rotate_left
 · simp only [Act.put, List.setIfInBounds_toArray, List.set_cons_zero, List.set_cons_succ, i64_w, i32_w]
   rfl
 refine take_ (i := 7) (N := some 12) (v := ?_) (a' := ?_) #[true, true, true, true, true, true, true, true, true, false, false, false, false, true, false, true, false, false, false, false, false, false] rfl rfl (take_ofW HT_.out HW_.out (by kernel_rfl)) (fun _ _ _ h => h) (Or.inl ⟨by rfl, ?_⟩) hHeld ?_ ?_
 rotate_left
 · rintro w' ⟨s0, s1, s2, s3, s4, s5⟩
   go_simp
   with_reducible rfl
 rotate_left
 · simp only [Act.put, List.setIfInBounds_toArray, List.set_cons_zero, List.set_cons_succ, i64_w, i32_w]
   rfl
 refine take_ (i := 9) (N := some 14) (v := ?_) (a' := ?_) #[true, true, true, true, true, true, true, true, true, true, false, false, false, true, false, true, false, false, false, false, false, false] rfl rfl (take_ofW HT_.out HW_.out (by kernel_rfl)) (fun _ _ _ h => h) (Or.inl ⟨by rfl, ?_⟩) hHeld ?_ ?_
 rotate_left
 · rintro w' ⟨s0, s1, s2, s3, s4, s5⟩
   go_simp
   with_reducible rfl
 rotate_left
 · simp only [Act.put, List.setIfInBounds_toArray, List.set_cons_zero, List.set_cons_succ, i64_w, i32_w]
   rfl
 refine pure_ (i := 10) (N := some 15) (v := ?_) (a' := ?_) #[true, true, true, true, true, true, true, true, true, true, true, false, false, true, false, true, false, false, false, false, false, false] rfl rfl (any_of HT_.out (by kernel_rfl)) (fun _ _ _ h => h) (Or.inl ⟨by rfl, ?_⟩) ?_ ?_
 rotate_left
 · intro w'
   go_simp
   with_reducible rfl
 rotate_left
 · simp only [Act.put, List.setIfInBounds_toArray, List.set_cons_zero, List.set_cons_succ, i64_w, i32_w]
   rfl
 refine pure_ (i := 11) (N := some 16) (v := ?_) (a' := ?_) #[true, true, true, true, true, true, true, true, true, true, true, true, false, true, false, true, false, false, false, false, false, false] rfl rfl (any_of HT_.out (by kernel_rfl)) (fun _ _ _ h => h) (Or.inl ⟨by rfl, ?_⟩) ?_ ?_
 rotate_left
 · intro w'
   go_simp
   with_reducible rfl
 rotate_left
 · simp only [Act.put, List.setIfInBounds_toArray, List.set_cons_zero, List.set_cons_succ, i64_w, i32_w]
   rfl
 refine take_ (i := 14) (N := some 19) (v := ?_) (a' := ?_) #[true, true, true, true, true, true, true, true, true, true, true, true, false, true, true, true, false, false, false, false, false, false] rfl rfl (take_ofW HT_.out HW_.out (by kernel_rfl)) (fun _ _ _ h => h) (Or.inl ⟨by rfl, ?_⟩) hHeld ?_ ?_
 rotate_left
 · rintro w' ⟨s0, s1, s2, s3, s4, s5⟩
   go_simp
   with_reducible rfl
 rotate_left
 · simp only [Act.put, List.setIfInBounds_toArray, List.set_cons_zero, List.set_cons_succ, i64_w, i32_w]
   rfl
 refine take_ (i := 16) (N := some 21) (v := ?_) (a' := ?_) #[true, true, true, true, true, true, true, true, true, true, true, true, false, true, true, true, true, false, false, false, false, false] rfl rfl (take_ofW HT_.out HW_.out (by kernel_rfl)) (fun _ _ _ h => h) (Or.inl ⟨by rfl, ?_⟩) hHeld ?_ ?_
 rotate_left
 · rintro w' ⟨s0, s1, s2, s3, s4, s5⟩
   go_simp
   with_reducible rfl
 rotate_left
 · simp only [Act.put, List.setIfInBounds_toArray, List.set_cons_zero, List.set_cons_succ, i64_w, i32_w]
   rfl
 refine one_ (i := 12) (N := some 17) #[true, true, true, true, true, true, true, true, true, true, true, true, true, true, true, true, true, false, false, false, false, false] rfl rfl (one_of HT_.out (by kernel_rfl)) (by decide) (fun K hK => ?_)
 refine goes_ Try.func111 (by kernel_rfl) rfl #[.int .i64 ji3, .int .i64 ji4] (by rfl) rfl rfl (by (try simp only [List.map_toArray, List.map_cons, List.map_nil]); first | done | (simp only [hji3, hji4]; rfl) | rfl | (simp only [List.length_drop, List.length_take]; rfl)) ?_
 with_reducible refine (cmp_Compare_int.calls ji3 ji4 t133 _ A5.out).mono ?_
 rintro e w' ⟨rfl, ⟨nd, rfl⟩⟩
 refine ⟨_, rfl, ?_⟩
 refine hK.out _ _ ⟨(blk_cell BK131.out 0).trans rfl, (blk_cell BK131.out 1).trans rfl, (blk_cell BK131.out 2).trans rfl, (blk_cell BK132.out 0).trans rfl, (blk_cell BK132.out 1).trans rfl, (blk_cell BK132.out 2).trans rfl⟩ (fun hHeld => ?_)
 clear hK K
 refine norm_ (a' := ?_) ?_ ?_
 rotate_left
 · show Act.put _ (some 17) _ = _
   simp only [Act.put, List.setIfInBounds_toArray, List.set_cons_zero, List.set_cons_succ, i64_w, i32_w]
   rfl
 refine one_ (i := 17) (N := some 22) #[true, true, true, true, true, true, true, true, true, true, true, true, true, true, true, true, true, true, false, false, false, false] rfl rfl (one_of HT_.out (by kernel_rfl)) (by decide) (fun K hK => ?_)
 refine goes_ Try.func111 (by kernel_rfl) rfl #[.int .i64 a0_0, .int .i64 a1_0] (by rfl) rfl rfl (by (try simp only [List.map_toArray, List.map_cons, List.map_nil]); first | done | rfl | (simp only [List.length_drop, List.length_take]; rfl)) ?_
 with_reducible refine (cmp_Compare_int.calls a0_0 a1_0 t134 _ A6.out).mono ?_
 rintro e w' ⟨rfl, ⟨nd, rfl⟩⟩
 refine ⟨_, rfl, ?_⟩
 refine hK.out _ _ ⟨(blk_cell BK131.out 0).trans rfl, (blk_cell BK131.out 1).trans rfl, (blk_cell BK131.out 2).trans rfl, (blk_cell BK132.out 0).trans rfl, (blk_cell BK132.out 1).trans rfl, (blk_cell BK132.out 2).trans rfl⟩ (fun hHeld => ?_)
 clear hK K
 refine norm_ (a' := ?_) ?_ ?_
 rotate_left
 · show Act.put _ (some 22) _ = _
   simp only [Act.put, List.setIfInBounds_toArray, List.set_cons_zero, List.set_cons_succ, i64_w, i32_w]
   rfl
 refine one_ (i := 18) (N := some 23) #[true, true, true, true, true, true, true, true, true, true, true, true, true, true, true, true, true, true, true, false, false, false] rfl rfl (one_of HT_.out (by kernel_rfl)) (by decide) (fun K hK => ?_)
 refine Kd.R_lit_step (Kd.int .i64) _ 3 ?hg (N := 23) ?hd (xs := ([t133, t134] : List Int)) (inner := [.int .i64 t133, .int .i64 t134]) (ok := fun _ => True) (okp := fun _ => True) ?hr ?hp (fun _ hk => hk) trivial (Below.refl _ _) (Nat.le_refl _) (by simp) ?_; (case hd => rfl); (case hg => rfl); (case hr => first | (go_simp; done) | (go_simp; rfl)); (case hp => exact (Reps.one (show Kd.M (Kd.int .i64) _ _ _ t133 [.int .i64 t133] from rfl) (Reps.one (show Kd.M (Kd.int .i64) _ _ _ t134 [.int .i64 t134] from rfl) (Reps.none _ _))))
 intro v136 w11 ho12 hb hg_ hnew_
 clear hg_ hnew_
 (first | rw [← Ny135.out] at ho12 | (simp only [Int.reduceToNat] at ho12; rw [← Ny135.out] at ho12))
 have HO137 := Aside0.mk (Kd.R_lower ho12 (below_size (by repeat (first | (with_reducible first | exact HB.out | apply below_alloc | apply pw_below_drewN | apply below_drew1 | refine below_set ?_ GE131.out | refine below_set ?_ GE132.out) | exact HB.out))))
 replace BK131 := Aside0.mk (blk_below (g := gb131) (o := .cells #[.int .i64 a0_0, .int .i64 a0_1, .int .i64 a0_2] 55 (0, 0)) (by (with_reducible repeat (first | refine blk_drewN ?_ _ | refine blk_drew ?_ | refine blk_alloc ?_ _)); exact BK131.out) hb)
 replace BK132 := Aside0.mk (blk_below (g := gb132) (o := .cells #[.int .i64 a1_0, .int .i64 a1_1, .int .i64 a1_2] 55 (0, 0)) (by (with_reducible repeat (first | refine blk_drewN ?_ _ | refine blk_drew ?_ | refine blk_alloc ?_ _)); exact BK132.out) hb)
 replace HB := Aside0.mk (below_step (by repeat (first | (with_reducible first | exact HB.out | apply below_alloc | apply pw_below_drewN | apply below_drew1 | refine below_set ?_ GE131.out | refine below_set ?_ GE132.out) | exact HB.out)) hb)
 clear hb ho12
 obtain ⟨Ao13, co13, eo13⟩ := Kd.R_slice HO137.out
 (first | subst eo13 | (injection eo13 with f1_ f2_ f3_; have f4_ := f1_.symm; have f5_ := f3_.symm; clear f1_ f2_ f3_; subst f4_; subst f5_))
 refine hK.out _ _ ⟨(blk_cell BK131.out 0).trans rfl, (blk_cell BK131.out 1).trans rfl, (blk_cell BK131.out 2).trans rfl, (blk_cell BK132.out 0).trans rfl, (blk_cell BK132.out 1).trans rfl, (blk_cell BK132.out 2).trans rfl⟩ (fun hHeld => ?_)
 clear hK K
 refine norm_ (a' := ?_) ?_ ?_
 rotate_left
 · show Act.put _ (some 23) _ = _
   simp only [Act.put, List.setIfInBounds_toArray, List.set_cons_zero, List.set_cons_succ, i64_w, i32_w]
   rfl
 refine one_ (i := 19) (N := some 24) #[true, true, true, true, true, true, true, true, true, true, true, true, true, true, true, true, true, true, true, true, false, false] rfl rfl (one_of HT_.out (by kernel_rfl)) (by decide) (fun K hK => ?_)
 refine goes_ Try.func110 (by kernel_rfl) rfl #[.slice Ao13 y135.length co13] (by rfl) rfl rfl (by (try simp only [List.map_toArray, List.map_cons, List.map_nil]); first | done | rfl | (simp only [List.length_drop, List.length_take]; rfl)) ?_
 with_reducible refine (cmp_Or_int.calls k _ _ y135 t138 _ ?side1 ?side2 A7.out).mono ?_
 (case side1 => repeat (first | exact (Kd.R_reads' HO137.out).2.2 | (with_reducible refine Kd.C_alloc ?_ _) | (with_reducible refine Kd.C_drewN ?_ _) | (with_reducible refine Kd.C_drew ?_)))
 (case side2 => exact (Kd.R_reads' HO137.out).2.1)
 rintro e w' ⟨rfl, ⟨nd, rfl⟩⟩
 refine ⟨_, rfl, ?_⟩
 refine hK.out _ _ ⟨(blk_cell BK131.out 0).trans rfl, (blk_cell BK131.out 1).trans rfl, (blk_cell BK131.out 2).trans rfl, (blk_cell BK132.out 0).trans rfl, (blk_cell BK132.out 1).trans rfl, (blk_cell BK132.out 2).trans rfl⟩ (fun hHeld => ?_)
 clear hK K
 refine norm_ (a' := ?_) ?_ ?_
 rotate_left
 · show Act.put _ (some 24) _ = _
   simp only [Act.put, List.setIfInBounds_toArray, List.set_cons_zero, List.set_cons_succ, i64_w, i32_w]
   rfl
 refine pure_ (i := 20) (N := some 25) (v := ?_) (a' := ?_) #[true, true, true, true, true, true, true, true, true, true, true, true, true, true, true, true, true, true, true, true, true, false] rfl rfl (any_of HT_.out (by kernel_rfl)) (fun _ _ _ h => h) (Or.inl ⟨by rfl, ?_⟩) ?_ ?_
 rotate_left
 · intro w'
   go_simp
   with_reducible rfl
 rotate_left
 · simp only [Act.put, List.setIfInBounds_toArray, List.set_cons_zero, List.set_cons_succ, i64_w, i32_w]
   rfl
 refine pure_ (i := 21) (N := some 4) (v := ?_) (a' := ?_) #[true, true, true, true, true, true, true, true, true, true, true, true, true, true, true, true, true, true, true, true, true, true] rfl rfl (any_of HT_.out (by kernel_rfl)) (fun _ _ _ h => h) (Or.inl ⟨by rfl, ?_⟩) ?_ ?_
 rotate_left
 · intro w'
   go_simp
   with_reducible rfl
 rotate_left
 · simp only [Act.put, List.setIfInBounds_toArray, List.set_cons_zero, List.set_cons_succ, i64_w, i32_w]
   rfl
 refine done_ (done_of HT_.out (by kernel_rfl)) ?_
 try go_wp2
 go_ret
 exact ⟨by first | rfl | (simp [errW_none, errW_some] <;> rfl) | (simp only [← hji3, ← hji4]; first | rfl | (simp [errW_none, errW_some] <;> rfl)) | (simp [*, errW_none, errW_some] <;> rfl), by repeat (first | (with_reducible first | exact HB.out | apply below_alloc | apply pw_below_drewN | apply below_drew1 | refine below_set ?_ GE131.out | refine below_set ?_ GE132.out) | exact HB.out)⟩
set_option maxHeartbeats 8000000 in
set_option maxRecDepth 100000 in
theorem quot_isCoord.calls (a0 : Int) (r : Bool) (w : World) (h : quot_isCoord.f a0 = some r) :
  Calls Try.prog 87 #[.int .i64 a0] w fun e w' => e = .returned (.bool r) ∧ Drawn0 w w' := by
 have H : (if (-1000000000) ≤ a0 then (some (decide (a0 ≤ 1000000000))) else (some false)) = some r := h
 clear h
 by_cases c2 : (-1000000000) ≤ a0
 · rw [if_pos c2] at H
   have c2b0 : decide ((-1000000000) ≤ a0) = true := decide_eq_true c2
   clear c2
   obtain rfl := Option.some.inj H
   go_enter Try.func87, Try.ntmps87
   go_wp2
   go_ret
   exact ⟨by first | rfl | (simp; done) | (simp [*]; done), by repeat (first | exact Drawn0.refl _ | apply Drawn0.step)⟩
 · rw [if_neg c2] at H
   have c2b0 : decide ((-1000000000) ≤ a0) = false := decide_eq_false c2
   clear c2
   obtain rfl := Option.some.inj H
   go_enter Try.func87, Try.ntmps87
   go_wp2
   go_ret
   exact ⟨by first | rfl | (simp; done) | (simp [*]; done), by repeat (first | exact Drawn0.refl _ | apply Drawn0.step)⟩
set_option maxHeartbeats 8000000 in
set_option maxRecDepth 100000 in
theorem quot_floor.calls (a0 : Int) (a1 : Int) (r : Int) (w : World) (h : quot_floor.f a0 a1 = some r) :
  Calls Try.prog 88 #[.int .i64 a0, .int .i64 a1] w fun e w' => e = .returned (.int .i64 r) ∧ Drawn0 w w' := by
 have H : (if a0 < 0 then (if a1 = 0 then (none) else (some (wrap64 (-(wrap64 (Int.tdiv (wrap64 ((wrap64 ((wrap64 (-a0)) + a1)) - 1)) a1)))))) else (if a1 = 0 then (none) else (some (wrap64 (Int.tdiv a0 a1))))) = some r := h
 clear h
 by_cases c3 : a0 < 0
 · rw [if_pos c3] at H
   have c3b0 : decide (a0 < 0) = true := decide_eq_true c3
   clear c3
   by_cases c4 : a1 = 0
   · rw [if_pos c4] at H
     exact absurd H (by simp)
   · rw [if_neg c4] at H
     have c4b0 : (a1 == 0) = false := beq_eq_false_iff_ne.mpr c4
     have c4b1 : (a1 != 0) = true := bne_iff_ne.mpr c4
     obtain rfl := Option.some.inj H
     go_enter Try.func88, Try.ntmps88
     go_wp2
     go_ret
     exact ⟨by first | rfl | (simp; done) | (simp [*]; done), by repeat (first | exact Drawn0.refl _ | apply Drawn0.step)⟩
 · rw [if_neg c3] at H
   have c3b0 : decide (a0 < 0) = false := decide_eq_false c3
   clear c3
   by_cases c5 : a1 = 0
   · rw [if_pos c5] at H
     exact absurd H (by simp)
   · rw [if_neg c5] at H
     have c5b0 : (a1 == 0) = false := beq_eq_false_iff_ne.mpr c5
     have c5b1 : (a1 != 0) = true := bne_iff_ne.mpr c5
     obtain rfl := Option.some.inj H
     go_enter Try.func88, Try.ntmps88
     go_wp2
     go_ret
     exact ⟨by first | rfl | (simp; done) | (simp [*]; done), by repeat (first | exact Drawn0.refl _ | apply Drawn0.step)⟩
end
section
open Go.Proofs.YtdigjjncoeaiiaaGlib
attribute [local go_sem] Oper.semAt_some
set_option maxHeartbeats 8000000 in
set_option maxRecDepth 100000 in
theorem cand1_calls {base bx g1 g2 : Nat} {A0 : Option Addr} {c0 : Nat} {l0 : List Int} {d : Int} {w : World}
  (hv : ValsOk l0) (hl1 : 1 ≤ l0.length) (hl2 : l0.length ≤ 4000) (hd0 : 1 ≤ d) (hd1 : d ≤ 16) (hc0 : l0.length ≤ c0)
  (hbw : base ≤ w.heap.size) (hR0 : ∀ B, Below base w B → Kd.C (Kd.int .i64) B A0 l0.length l0)
  (hcap : CapsQ g1 g2 (.slice A0 l0.length c0) d w) (hb1 : g1 ≠ bx) (hb2 : g2 ≠ bx) (hbx : bx < w.heap.size)
  (l : Nat) (J : List S55 → World → Prop) (W : World) (hl : w.heap.size ≤ l) (hlW : l < W.heap.size) (hs : Stp (fun _ => False) 0 base w W)
  (hJ : ∀ pre A B, J pre A → Stp (fun _ => False) 0 base A B → J pre B)
  (hY : ∀ pre x A, J pre A → coordB x.f0 = true ∧ x.f2 = d → YieldAt Fence.wide 0 Try.prog l (encQ x) A fun e B => e = .returned (.bool true) ∧ J (pre ++ [x]) B ∧ Stp (fun k => k = bx ∨ k = l) 0 base A B)
  (hJ0 : J [] W) :
  CallsIn Fence.wide 0 Try.prog 117 (#[.func (.yield l) #[] #[]] ++ #[.pointer (some ⟨g1, 0, none⟩), .pointer (some ⟨g2, 0, none⟩)]) W fun e B => (∃ v, e = .returned v) ∧ ∃ xs : List S55, xs = candL l0 d ∧ J xs B := by
 have HJ := Aside0.mk hJ
 have HY := Aside0.mk hY
 have HR0 := Aside0.mk hR0
 have HC := Aside0.mk (hcap.stp hs id id (by decide) (by decide))
 have HB := Aside0.mk (hs.below hbw)
 have HJ0 := Aside0.mk hJ0
 have HV := Aside0.mk hv
 have hg1 := (Array.getElem?_eq_some_iff.1 hcap.b1).1
 have hg2 := (Array.getElem?_eq_some_iff.1 hcap.b2).1
 have hrb := rise_bound hv hl1 hd0 hd1
 have HRW := Aside0.mk (HR0.out W (hs.below hbw))
 clear hJ hY hR0 hcap hJ0 hs hv
 have x1 : W.cell? ⟨g1, 0, none⟩ = some (.slice A0 l0.length c0) := (blk_cell HC.out.b1 0).trans rfl
 have x2 : W.cell? ⟨g2, 0, none⟩ = some (.int .i64 d) := (blk_cell HC.out.b2 0).trans rfl
 have w1 : wrap64 ((l0.length : Int) - 1) = (l0.length : Int) - 1 := wrap64_id (by omega) (by omega)
 refine callsIn_wide.2 (calls_of_wp Try.func117 rfl ?_)
 simp only [Try.ntmps117, List.size_toArray, List.length_cons, List.length_nil, Nat.reduceAdd, Nat.reduceSub, Array.replicate_succ, Array.replicate_zero, List.push_toArray, List.append_toArray, List.nil_append, List.cons_append]
 by_cases h1 : l0.length = 1
 · have e1 : ((l0.length : Int) - 1 == 0) = true := by rw [h1]; rfl
   have HCL := Aside0.mk (show candL l0 d = [⟨0, 0, d⟩] by unfold candL; rw [if_pos h1])
   clear h1
   refine (wpIn_wide (n := 0)).1 ?_
   obtain ⟨fn, tmps, assign, body, hy, hR⟩ := HY.out [] ⟨0, 0, d⟩ W HJ0.out ⟨rfl, rfl⟩
   dsimp only [encQ] at hy
   gi_wp2
   refine ⟨rfl, hR.mono ?_⟩
   rintro e B ⟨rfl, hJ3, hS3⟩
   gi_wp2
   refine bodyPost_ret (results_none rfl _ _ _) rfl ?_
   exact ⟨⟨_, rfl⟩, _, HCL.out.symm, hJ3⟩
 · have e1 : ((l0.length : Int) - 1 == 0) = false := beq_eq_false_iff_ne.mpr (by omega)
   have hn : 1 ≤ (l0.length : Int) - 1 := by omega
   have HCL := Aside0.mk (show candL l0 d = candR d (hiA l0 d - loA l0 d + 1).toNat (loA l0 d) by unfold candL; rw [if_neg h1])
   clear h1
   have FL := Aside0.mk (fun W => quot_floor.calls (d - 1 - riseP l0 d) ((l0.length : Int) - 1) _ W (qfloor_of _ _ (by omega) (by omega) (by omega) (by omega)))
   have hlo := div_bound (a := d - 1 - riseP l0 d) (n := (l0.length : Int) - 1) (m := 33000000000) hn (by omega) (by omega) (by omega)
   have hhi := div_bound (a := riseP l0 d + d - 1) (n := (l0.length : Int) - 1) (m := 33000000000) hn (by omega) (by omega) (by omega)
   have HLO := Aside0.mk (show loA l0 d = -((d - 1 - riseP l0 d) / ((l0.length : Int) - 1)) from rfl)
   have HHI := Aside0.mk (show hiA l0 d = (riseP l0 d + d - 1) / ((l0.length : Int) - 1) from rfl)
   obtain ⟨ad, ea, y0⟩ := Kd.at_int HRW.out 0 (by omega) (by omega)
   subst ea
   rw [show ((0 : Int)).toNat = 0 from rfl, Addr.add_zero'] at y0
   obtain ⟨ad', ea, y1⟩ := Kd.at_int HRW.out ((l0.length : Int) - 1) (by omega) (by omega)
   obtain rfl := Option.some.inj ea
   rw [show ((l0.length : Int) - 1).toNat = l0.length - 1 by omega] at y1
   have q3 : (1 : Int) ≤ (l0.length : Int) := by omega
   have v0 := vals_at HV.out (i := 0) (by omega) (by omega)
   have v1 := vals_at HV.out (i := (l0.length : Int) - 1) (by omega) (by omega)
   have hm := mul_bound (a := d) (b := rd l0 ((l0.length : Int) - 1) - rd l0 0) (m := 16) (n := 2000000000) (by omega) (by omega) (by omega) (by omega)
   have w2 : wrap64 (rd l0 ((l0.length : Int) - 1) - rd l0 0) = rd l0 ((l0.length : Int) - 1) - rd l0 0 := wrap64_id (by omega) (by omega)
   have w3 : wrap64 (d * (rd l0 ((l0.length : Int) - 1) - rd l0 0)) = riseP l0 d := wrap64_id (by omega) (by omega)
   have q0 : 0 ≤ (l0.length : Int) - 1 := by omega
   have q1 : (l0.length : Int) - 1 < (l0.length : Int) := by omega
   have q2 : (0 : Int) < (l0.length : Int) := by omega
   have w4 : wrap64 (d - 1) = d - 1 := wrap64_id (by omega) (by omega)
   have w5 : wrap64 (d - 1 - riseP l0 d) = d - 1 - riseP l0 d := wrap64_id (by omega) (by omega)
   have w6 : wrap64 (-((d - 1 - riseP l0 d) / ((l0.length : Int) - 1))) = loA l0 d := wrap64_id (by omega) (by omega)
   have HRB := Aside0.mk hrb
   have HLB := Aside0.mk hlo
   have HHB := Aside0.mk hhi
   rw [HLO.out] at w6
   rw [HLO.out, HHI.out] at HCL
   clear HLO HHI hrb hlo hhi w3
   unfold riseP at *
   go_wp2_with fail
   go_quiet (fail)
   generalize d * (rd l0 ((l0.length : Int) - 1) - rd l0 0) = R at *
   go_wp2_with (go_at_call 88; with_reducible refine (FL.out _).mono ?_; rintro r w3 ⟨rfl, hd⟩; have hb := Drawn0.below hd; clear hd; have HS3 := Aside0.mk (Stp.of_below (X := fun _ => False) (t := 0) (base := base) (below_step (by repeat (first | (with_reducible first | exact Below.refl _ _ | apply below_alloc | apply pw_below_drewN | apply below_drew1) | exact Below.refl _ _)) hb)); clear hb)
   have HJ3 := Aside0.mk (HJ.out _ _ _ (HJ.out _ _ _ HJ0.out (Stp.of_below (X := fun _ => False) (t := 0) (base := base) (pw_below_drewN (Below.refl _ _) nq))) HS3.out)
   have HC3 := Aside0.mk ((HC.out.stp (Stp.of_below (X := fun _ => False) (t := 0) (base := base) (pw_below_drewN (Below.refl _ _) nq)) id id (by decide) (by decide)).stp HS3.out id id (by decide) (by decide))
   have HNB := Aside0.mk (show 1 ≤ (l0.length : Int) - 1 ∧ (l0.length : Int) - 1 ≤ 3999 by omega)
   have HG1 := Aside0.mk (show g1 ≠ l ∧ g2 ≠ l by omega)
   have HDB := Aside0.mk (show 1 ≤ d ∧ d ≤ 16 from ⟨hd0, hd1⟩)
   clear HC HJ0 FL HRW x1 x2 y0 y1 v0 v1 hm w2 w4 w5 w6 HV hd0 hd1 hg1 hg2 q3 q2 q1 q0 hn w1 e1
   generalize (l0.length : Int) - 1 = N at *
   obtain ⟨H, hH⟩ : ∃ H, H = (R + d - 1) / N := ⟨_, rfl⟩
   have HH := Aside0.mk hH
   rw [← hH] at HCL HHB
   clear hH
   have HLL := Aside0.mk (show -33000000000 ≤ -((d - 1 - R) / N) ∧ -((d - 1 - R) / N) ≤ 33000000000 by have := HLB.out; omega)
   generalize -((d - 1 - R) / N) = L at *
   have wl : wrap64 L = L := wrap64_id (by have := HLL.out; omega) (by have := HLL.out; omega)
   have wr1 : wrap64 (R + d) = R + d := wrap64_id (by have := HRB.out; have := HDB.out; omega) (by have := HRB.out; have := HDB.out; omega)
   have wr2 : wrap64 (R + d - 1) = R + d - 1 := wrap64_id (by have := HRB.out; have := HDB.out; omega) (by have := HRB.out; have := HDB.out; omega)
   rw [wl]
   refine (wpIn_wide (n := 0)).1 ?_
   gi_loopw [6] (fun v wr => ∃ (a : Int) (kk : Nat) (pre : List S55), v = .int .i64 a ∧ Aside0 (-33000000000 ≤ a ∧ a ≤ 33000000001) ∧ Aside0 (kk = (H - a + 1).toNat) ∧ Aside0 (pre ++ candR d kk a = candL l0 d) ∧ Aside0 (J pre wr) ∧ Aside0 (CapsQ g1 g2 (.slice (some ad) l0.length c0) d wr)) (fun v _ => (H + 1 - Go.RowKit.intOf v).toNat)
   case atStart => exact ⟨L, (H - L + 1).toNat, [], rfl, ⟨by have := HLL.out; omega⟩, ⟨rfl⟩, ⟨by rw [HCL.out]; rfl⟩, HJ3, HC3⟩
   case round =>
    clear HJ3 HC3
    obtain ⟨a, kk, pre, rfl, HA, HK, HE, HJp, HCp⟩ := hrel
    have x2 : wr.cell? ⟨g2, 0, none⟩ = some (.int .i64 d) := (blk_cell HCp.out.b2 0).trans rfl
    have wm : wrap64 (a * N) = a * N := wrap_cand HA.out HNB.out
    have hcmp : a * N ≤ R + d - 1 ↔ a ≤ H := by rw [HH.out]; exact (Int.le_ediv_iff_mul_le (by have := HNB.out; omega)).symm
    by_cases hle : a ≤ H
    · have d0 : decide (a * N ≤ R + d - 1) = true := decide_eq_true (hcmp.2 hle)
      clear hcmp
      obtain ⟨k1, hk1⟩ : ∃ k1, kk = k1 + 1 := ⟨kk - 1, by have := HK.out; omega⟩
      subst hk1
      have HK1 := Aside0.mk (show k1 = (H - (a + 1) + 1).toNat by have := HK.out; omega)
      have HA1 := Aside0.mk (show -33000000000 ≤ a + 1 ∧ a + 1 ≤ 33000000001 by have h1 := HA.out; have h2 := HHB.out; omega)
      have wn : wrap64 (a + 1) = a + 1 := wrap64_id (by have := HA.out; omega) (by have := HA.out; omega)
      have CO := Aside0.mk (fun W => quot_isCoord.calls a _ W (isCoord_of a))
      have HM := Aside0.mk (show (H + 1 - (a + 1)).toNat < (H + 1 - a).toNat by omega)
      cases hca : coordB a with
      | true =>
       rw [hca] at CO
       have HE1 := Aside0.mk (show (pre ++ [(⟨a, 0, d⟩ : S55)]) ++ candR d k1 (a + 1) = candL l0 d by have h := HE.out; unfold candR at h; rw [if_pos hca] at h; rw [List.append_assoc]; exact h)
       have HCA := Aside0.mk hca
       clear hca
       gi_wp2
       refine ⟨trivial, rfl, (callsIn_wide.2 (CO.out _)).mono ?_⟩
       rintro e w8 ⟨rfl, ⟨nd, rfl⟩⟩
       obtain ⟨fn, tmps, assign, body, hy, hR⟩ := HY.out pre ⟨a, 0, d⟩ (wr.drewN nd) (HJ.out _ _ _ HJp.out (Stp.of_below (pw_below_drewN (Below.refl _ _) nd))) ⟨HCA.out, rfl⟩
       dsimp only [encQ] at hy
       gi_wp2
       refine ⟨rfl, hR.mono ?_⟩
       rintro e B ⟨rfl, hJ3, hS3⟩
       gi_wp2
       go_roundw
       case rel => exact ⟨a + 1, k1, pre ++ [⟨a, 0, d⟩], congrArg (Value.int .i64) wn, HA1, HK1, HE1, ⟨hJ3⟩, ⟨(HCp.out.stp (Stp.of_below (X := fun _ => False) (t := 0) (base := base) (pw_below_drewN (Below.refl _ _) nd)) id id (by decide) (by decide)).stp hS3 (fun h => h.elim hb1 HG1.out.1) (fun h => h.elim hb2 HG1.out.2) (by decide) (by decide)⟩⟩
       case measure => exact meas_int wn HM.out
      | false =>
       rw [hca] at CO
       have HE1 := Aside0.mk (show pre ++ candR d k1 (a + 1) = candL l0 d by have h := HE.out; unfold candR at h; rw [if_neg (by rw [hca]; simp)] at h; exact h)
       clear hca
       gi_wp2
       refine ⟨trivial, rfl, (callsIn_wide.2 (CO.out _)).mono ?_⟩
       rintro e w8 ⟨rfl, ⟨nd, rfl⟩⟩
       gi_wp2
       refine ⟨(fun f h => nomatch h), ?_⟩
       gi_wp2
       go_roundw
       case rel => exact ⟨a + 1, k1, pre, congrArg (Value.int .i64) wn, HA1, HK1, HE1, ⟨HJ.out _ _ _ HJp.out (Stp.of_below (pw_below_drewN (Below.refl _ _) nd))⟩, ⟨HCp.out.stp (Stp.of_below (X := fun _ => False) (t := 0) (base := base) (pw_below_drewN (Below.refl _ _) nd)) id id (by decide) (by decide)⟩⟩
       case measure => exact meas_int wn HM.out
    · have d0 : decide (a * N ≤ R + d - 1) = false := decide_eq_false (fun h => hle (hcmp.1 h))
      have HK0 := HK.out
      rw [show (H - a + 1).toNat = 0 by omega] at HK0
      subst HK0
      have HE1 := HE.out
      unfold candR at HE1
      rw [List.append_nil] at HE1
      clear hcmp
      gi_wp2
      refine bodyPost_end (results_none rfl _ _ _) rfl ?_
      exact ⟨⟨_, rfl⟩, by rw [← HE1]; exact HJp.out⟩
end
section
set_option maxHeartbeats 4000000 in
set_option maxRecDepth 100000 in
theorem candidates_calls (A : Option Addr) (n c : Nat) (d : Int) (w : World) :
  Calls Try.prog 112 #[.slice A n c, .int .i64 d] w fun e w' => e = .returned (.func (.func 117) #[] #[.pointer (some ⟨w.heap.size, 0, none⟩), .pointer (some ⟨w.heap.size + 1, 0, none⟩)]) ∧ CapsQ w.heap.size (w.heap.size + 1) (.slice A n c) d w' ∧ Below w.heap.size w w' ∧ w'.heap.size = w.heap.size + 2 := by
 have hmf : ∀ (fn : Fn) (first cap : Array Value) (w : World), (Instr.makeFunc fn first cap).run Try.prog w = .ok (.func fn first cap) w := fun _ _ _ _ => rfl
 go_enter Try.func112, Try.ntmps112
 go_wp2
 go_ret
 exact ⟨rfl, ⟨blk_alloc (blk_new w _) _, by simpa using blk_new (w.alloc (.cells #[.slice A n c] 33)) (.cells #[.int .i64 d] 3)⟩, below_alloc (below_alloc (Below.refl _ _) _) _, by simp⟩
end
end Go.Proofs.Ytdigjjncoeaiiaa.PAll
