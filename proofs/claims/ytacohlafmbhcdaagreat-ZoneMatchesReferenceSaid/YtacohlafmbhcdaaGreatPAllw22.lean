/- Printed by a program of this session (wip/gprint.py) over the translation, cut to what is named (wip/dcut.py). Not trusted: Lean checks it. -/
import Derived.Test.YtacohlafmbhcdaaGreatPAlld1
import Derived.Test.YtacohlafmbhcdaaGreatPAllw0
import Derived.Test.YtacohlafmbhcdaaGreatPAllw5
namespace Go.Proofs.YtacohlafmbhcdaaGreat.PAll
open Go.RowKit Go.Proofs.YtacohlafmbhcdaaGreatW.PrintWords Go.Proofs.YtacohlafmbhcdaaGreatW.PrintLast Go.Proofs.YtacohlafmbhcdaaGreatW.PrintMore
attribute [local go_sem] max2_int min2_int max_two min_two max_three min_three max_four min_four -- for this text's walks alone
set_option linter.unusedVariables false
set_option linter.unusedSimpArgs false
set_option maxHeartbeats 8000000 in
set_option maxRecDepth 100000 in
theorem api_Zone_38.calls (k : Nat) (A0 : Option Addr) (c0 : Nat) (l0 : List (S42)) (a1 : Int) (r1 : Int) (r2 : Int) (r3 : Int) (r4 : Int) (r5 : Int) (w : World) (hr0 : Kd.C k42 w A0 l0.length l0) (hc0 : l0.length ≤ c0) (h : api_Zone_38.f k l0 a1 = some (r1, r2, r3, r4, r5)) :
  Calls Tryz.prog 38 #[.slice A0 l0.length c0, .func (.func 39) #[] #[]] w fun e w' => e = .returned (.agg #[.int .i64 r1, .int .i64 r2, .int .i64 r3, .int .i64 r4, .int .i64 r5]) ∧ Below w.heap.size w w' := by
 have hu42 := Tryz.underlying42
 have HR0 := Aside0.mk hr0
 have HC0 := Aside0.mk hc0
 clear hr0 hc0
 have HB := Aside0.mk (Below.refl w.heap.size w)
 have H : (if (l0.length : Int) < 1 then (none) else (if 0 < (l0.length : Int) then (api_Zone_38.l0 k l0 1 ((rd_T42 l0 0).f0) ((rd_T42 l0 0).f1.f0) ((rd_T42 l0 0).f1.f1) ((rd_T42 l0 0).f2.f0) ((rd_T42 l0 0).f2.f1)) else (none))) = some (r1, r2, r3, r4, r5) := h
 clear h
 by_cases c3 : (l0.length : Int) < 1
 · rw [if_pos c3] at H
   exact absurd H (by simp)
 · rw [if_neg c3] at H
   have c3b0 : decide ((l0.length : Int) < 1) = false := decide_eq_false c3
   have c3b1 : decide (l0.length < 1) = false := decide_eq_false (by omega)
   clear c3
   by_cases c4 : 0 < (l0.length : Int)
   · rw [if_pos c4] at H
     have c4b0 : decide (0 < (l0.length : Int)) = true := decide_eq_true c4
     have c4b1 : decide (0 < l0.length) = true := decide_eq_true (by omega)
     clear c4
     have H' := Aside0.mk H
     clear H
     go_enter Tryz.func38, Tryz.ntmps38
     go_wp2_with (first | ((with_reducible refine gate_dst (N := 4) rfl ?_); refine box_event ?hg (N := 4) ?hd (cs := #[.int .i64 0, .int .i64 0, .int .i64 0, .int .i64 0, .int .i64 0]) (t := 42) ?hr ?_; (case hd => rfl); (case hg => rfl); (case hr => (go_simp; done)); intro gb241 hg w5 hbox hb; have n0_ := Aside0.mk (below_step (by repeat ((with_reducible exact HB.out))) hb); have n1_ := Aside0.mk (hbox); have n2_ := Aside0.mk ((by rw [hg]; exact (below_size (by repeat ((with_reducible exact HB.out)))) : w.heap.size ≤ gb241)); have n3_ := Aside0.mk ((by rw [hg]; exact (below_size (by repeat ((with_reducible exact HB.out)))) : w.heap.size ≤ gb241)); clear HB; have HB := n0_; have BK241 := n1_; have GW241 := n2_; have GE241 := n3_; clear n0_ n1_ n2_ n3_; clear hb hbox hg; have p242 : 0 ≤ (0 : Int) := (by omega); have q242 : 0 < (l0.length : Int) := of_decide_eq_true (by (with_reducible assumption)); obtain ⟨ad242, e242, hx242_0, hx242_1, hx242_2, hx242_3, hx242_4⟩ := at_T42 HR0.out 0 p242 q242; cases e242; have qi242 : (0 < l0.length) = True := eq_true (by omega); (try rw [show ((0 : Int)).toNat = 0 from rfl] at hx242_0); (try rw [show 0 * 5 = 0 from rfl] at hx242_0); (try rw [Addr.add_zero'] at hx242_0); (try rw [show ((0 : Int)).toNat = 0 from rfl] at hx242_1); (try rw [show 0 * 5 = 0 from rfl] at hx242_1); (try rw [Addr.add_zero'] at hx242_1); (try rw [show ((0 : Int)).toNat = 0 from rfl] at hx242_2); (try rw [show 0 * 5 = 0 from rfl] at hx242_2); (try rw [Addr.add_zero'] at hx242_2); (try rw [show ((0 : Int)).toNat = 0 from rfl] at hx242_3); (try rw [show 0 * 5 = 0 from rfl] at hx242_3); (try rw [Addr.add_zero'] at hx242_3); (try rw [show ((0 : Int)).toNat = 0 from rfl] at hx242_4); (try rw [show 0 * 5 = 0 from rfl] at hx242_4); (try rw [Addr.add_zero'] at hx242_4); replace hx242_0 := (HB.out.cell (World.block_lt_of_cell? w _ hx242_0)).trans hx242_0; replace hx242_1 := (HB.out.cell (World.block_lt_of_cell? w _ hx242_1)).trans hx242_1; replace hx242_2 := (HB.out.cell (World.block_lt_of_cell? w _ hx242_2)).trans hx242_2; replace hx242_3 := (HB.out.cell (World.block_lt_of_cell? w _ hx242_3)).trans hx242_3; replace hx242_4 := (HB.out.cell (World.block_lt_of_cell? w _ hx242_4)).trans hx242_4; replace p242 := eq_true p242; replace q242 := eq_true q242) | ((with_reducible refine gate_dst (N := 5) rfl ?_); refine box_event ?hg (N := 5) ?hd (cs := #[.int .i64 0, .int .i64 0, .int .i64 0, .int .i64 0, .int .i64 0]) (t := 42) ?hr ?_; (case hd => rfl); (case hg => rfl); (case hr => (go_simp; done)); intro gb243 hg w6 hbox hb; have n0_ := Aside0.mk (blk_below (g := gb241) (o := .cells #[.int .i64 0, .int .i64 0, .int .i64 0, .int .i64 0, .int .i64 0] 42 (0, 0)) (by (with_reducible repeat (fail)); exact BK241.out) hb); have n1_ := Aside0.mk (below_step (by repeat ((with_reducible exact HB.out))) hb); have n2_ := Aside0.mk (hbox); have n3_ := Aside0.mk ((by rw [hg]; exact (below_size (by repeat ((with_reducible exact HB.out)))) : w.heap.size ≤ gb243)); have n4_ := Aside0.mk ((by rw [hg]; exact (below_size (by repeat ((with_reducible exact HB.out)))) : w.heap.size ≤ gb243)); have n5_ := Aside0.mk ((by rw [hg]; exact Nat.ne_of_lt (blk_lt (g := gb241) (o := .cells #[.int .i64 0, .int .i64 0, .int .i64 0, .int .i64 0, .int .i64 0] 42 (0, 0)) (by (with_reducible repeat (fail)); exact BK241.out)) : gb241 ≠ gb243)); have n6_ := Aside0.mk ((by rw [hg]; exact Nat.ne_of_gt (blk_lt (g := gb241) (o := .cells #[.int .i64 0, .int .i64 0, .int .i64 0, .int .i64 0, .int .i64 0] 42 (0, 0)) (by (with_reducible repeat (fail)); exact BK241.out)) : gb243 ≠ gb241)); clear BK241; clear HB; have BK241 := n0_; have HB := n1_; have BK243 := n2_; have GW243 := n3_; have GE243 := n4_; have NB241_243 := n5_; have NB243_241 := n6_; clear n0_ n1_ n2_ n3_ n4_ n5_ n6_; clear hb hbox hg; have hnb7 := NB243_241.out; have hnc7 := NB241_243.out; have hcz8_0 : w6.cell? ⟨gb243, 0, none⟩ = some (.int .i64 0) := (blk_cell BK243.out 0).trans rfl; have hcz8_1 : w6.cell? ⟨gb243, 1, none⟩ = some (.int .i64 0) := (blk_cell BK243.out 1).trans rfl; have hcz8_2 : w6.cell? ⟨gb243, 2, none⟩ = some (.int .i64 0) := (blk_cell BK243.out 2).trans rfl; have hcz8_3 : w6.cell? ⟨gb243, 3, none⟩ = some (.int .i64 0) := (blk_cell BK243.out 3).trans rfl; have hcz8_4 : w6.cell? ⟨gb243, 4, none⟩ = some (.int .i64 0) := (blk_cell BK243.out 4).trans rfl; have hfz8_0 := blk_frozen BK243.out 0; have hfz8_1 := blk_frozen BK243.out 1; have hfz8_2 := blk_frozen BK243.out 2; have hfz8_3 := blk_frozen BK243.out 3; have hfz8_4 := blk_frozen BK243.out 4))
     go_loopg [6] k (fun kq v6 w' => ∃ (x6_1 : Int) (x244000_1 : Int) (x244001_1 : Int) (x244002_1 : Int) (x244003_1 : Int) (x244004_1 : Int), v6 = .int .i64 x6_1 ∧ Aside0 (api_Zone_38.l0 kq l0 x6_1 x244000_1 x244001_1 x244002_1 x244003_1 x244004_1 = some (r1, r2, r3, r4, r5)) ∧ Aside0 (kq ≤ k) ∧ Aside0 (w'.heap[gb241]? = some (.cells #[.int .i64 0, .int .i64 0, .int .i64 0, .int .i64 0, .int .i64 0] 42 (0, 0))) ∧ Aside0 (w'.heap[gb243]? = some (.cells #[.int .i64 x244000_1, .int .i64 x244001_1, .int .i64 x244002_1, .int .i64 x244003_1, .int .i64 x244004_1] 42 (0, 0))) ∧ Aside0 (Below w.heap.size w w'))
     case atStart => exact ⟨(1), ((rd_T42 l0 0).f0), ((rd_T42 l0 0).f1.f0), ((rd_T42 l0 0).f1.f1), ((rd_T42 l0 0).f2.f0), ((rd_T42 l0 0).f2.f1), (by rfl), H', ⟨Nat.le_refl _⟩, ⟨by (with_reducible repeat (fail)); refine blk_far ?_ NB241_243.out _; (with_reducible repeat (fail)); refine blk_far ?_ NB241_243.out _; (with_reducible repeat (fail)); refine blk_far ?_ NB241_243.out _; (with_reducible repeat (fail)); refine blk_far ?_ NB241_243.out _; (with_reducible repeat (fail)); refine blk_far ?_ NB241_243.out _; (with_reducible repeat (fail)); exact BK241.out⟩, ⟨by (with_reducible repeat (fail)); refine blk_put (cs := #[.int .i64 ((rd_T42 l0 0).f0), .int .i64 ((rd_T42 l0 0).f1.f0), .int .i64 ((rd_T42 l0 0).f1.f1), .int .i64 ((rd_T42 l0 0).f2.f0), .int .i64 0]) ?_ 4 _ rfl; (with_reducible repeat (fail)); refine blk_put (cs := #[.int .i64 ((rd_T42 l0 0).f0), .int .i64 ((rd_T42 l0 0).f1.f0), .int .i64 ((rd_T42 l0 0).f1.f1), .int .i64 0, .int .i64 0]) ?_ 3 _ rfl; (with_reducible repeat (fail)); refine blk_put (cs := #[.int .i64 ((rd_T42 l0 0).f0), .int .i64 ((rd_T42 l0 0).f1.f0), .int .i64 0, .int .i64 0, .int .i64 0]) ?_ 2 _ rfl; (with_reducible repeat (fail)); refine blk_put (cs := #[.int .i64 ((rd_T42 l0 0).f0), .int .i64 0, .int .i64 0, .int .i64 0, .int .i64 0]) ?_ 1 _ rfl; (with_reducible repeat (fail)); refine blk_put (cs := #[.int .i64 0, .int .i64 0, .int .i64 0, .int .i64 0, .int .i64 0]) ?_ 0 _ rfl; (with_reducible repeat (fail)); exact BK243.out⟩, ⟨by repeat ((with_reducible first | exact HB.out | refine below_set ?_ GE243.out))⟩⟩
     case round =>
      clear H'
      try clear c3b0
      try clear c3b1
      try clear c4b0
      try clear c4b1
      try clear hcz8_0
      try clear hcz8_1
      try clear hcz8_2
      try clear hcz8_3
      try clear hcz8_4
      try clear hfz8_0
      try clear hfz8_1
      try clear hfz8_2
      try clear hfz8_3
      try clear hfz8_4
      try clear hx242_0
      try clear hx242_1
      try clear hx242_2
      try clear hx242_3
      try clear hx242_4
      try clear p242
      try clear q242
      obtain ⟨x6_1, x244000_1, x244001_1, x244002_1, x244003_1, x244004_1, rfl, HA, HK1, BK241, BK243, HB⟩ := hrel
      cases gk with
      | zero => exact absurd HA.out (by simp [api_Zone_38.l0])
      | succ k1 =>
       have H := HA.out
       clear HA
       simp only [api_Zone_38.l0] at H
       by_cases c9 : x6_1 < (l0.length : Int)
       · rw [if_pos c9] at H
         have c9b0 : decide (x6_1 < (l0.length : Int)) = true := decide_eq_true c9
         clear c9
         by_cases c10 : 0 ≤ x6_1
         · rw [if_pos c10] at H
           have c10b0 : decide (0 ≤ x6_1) = true := decide_eq_true c10
           clear c10
           replace H := Option.bind_eq_some_iff.mp H
           obtain ⟨t245, A110, H⟩ := H
           replace H : (if t245 < 0 then (api_Zone_38.l0 k1 l0 (wrap64 (x6_1 + 1)) ((rd_T42 l0 x6_1).f0) ((rd_T42 l0 x6_1).f1.f0) ((rd_T42 l0 x6_1).f1.f1) ((rd_T42 l0 x6_1).f2.f0) ((rd_T42 l0 x6_1).f2.f1)) else (api_Zone_38.l0 k1 l0 (wrap64 (x6_1 + 1)) x244000_1 x244001_1 x244002_1 x244003_1 x244004_1)) = some (r1, r2, r3, r4, r5) := H
           have A11 := Aside0.mk A110
           clear A110
           by_cases c12 : t245 < 0
           · rw [if_pos c12] at H
             have c12b0 : decide (t245 < 0) = true := decide_eq_true c12
             clear c12
             have H' := Aside0.mk H
             clear H
             try go_wp2
             have n0_ := Aside0.mk (blk_drew BK241.out)
             have n1_ := Aside0.mk (blk_drew BK243.out)
             have n2_ := Aside0.mk (below_drew1 HB.out)
             clear BK241
             clear BK243
             clear HB
             have BK241 := n0_
             have BK243 := n1_
             have HB := n2_
             clear n0_ n1_ n2_
             have p244 : 0 ≤ (x6_1 : Int) := of_decide_eq_true (by (with_reducible assumption))
             have q244 : x6_1 < (l0.length : Int) := of_decide_eq_true (by (with_reducible assumption))
             obtain ⟨ad244, e244, hx244_0, hx244_1, hx244_2, hx244_3, hx244_4⟩ := at_T42 HR0.out x6_1 p244 q244
             have hw244_4 := hx244_4
             have hw244_3 := hx244_3
             have hw244_2 := hx244_2
             have hw244_1 := hx244_1
             have hw244_0 := hx244_0
             obtain rfl : ad242 = ad244 := (by injection e244)
             replace hx244_0 := (HB.out.cell (World.block_lt_of_cell? w _ hx244_0)).trans hx244_0
             replace hx244_1 := (HB.out.cell (World.block_lt_of_cell? w _ hx244_1)).trans hx244_1
             replace hx244_2 := (HB.out.cell (World.block_lt_of_cell? w _ hx244_2)).trans hx244_2
             replace hx244_3 := (HB.out.cell (World.block_lt_of_cell? w _ hx244_3)).trans hx244_3
             replace hx244_4 := (HB.out.cell (World.block_lt_of_cell? w _ hx244_4)).trans hx244_4
             replace p244 := eq_true p244
             replace q244 := eq_true q244
             refine start_ (n := 8) (S := fun w' => w'.cell? ⟨gb243, 0, none⟩ = some (.int .i64 x244000_1) ∧ w'.cell? ⟨gb243, 1, none⟩ = some (.int .i64 x244001_1) ∧ w'.cell? ⟨gb243, 2, none⟩ = some (.int .i64 x244002_1) ∧ w'.cell? ⟨gb243, 3, none⟩ = some (.int .i64 x244003_1) ∧ w'.cell? ⟨gb243, 4, none⟩ = some (.int .i64 x244004_1) ∧ w'.cell? (ad242.add ((x6_1).toNat * 5)) = some (.int .i64 ((rd_T42 l0 x6_1).f0)) ∧ w'.cell? ⟨(ad242.add ((x6_1).toNat * 5)).block, (ad242.add ((x6_1).toNat * 5)).off + 1, none⟩ = some (.int .i64 ((rd_T42 l0 x6_1).f1.f0)) ∧ w'.cell? ⟨(ad242.add ((x6_1).toNat * 5)).block, (ad242.add ((x6_1).toNat * 5)).off + 2, none⟩ = some (.int .i64 ((rd_T42 l0 x6_1).f1.f1)) ∧ w'.cell? ⟨(ad242.add ((x6_1).toNat * 5)).block, (ad242.add ((x6_1).toNat * 5)).off + 3, none⟩ = some (.int .i64 ((rd_T42 l0 x6_1).f2.f0)) ∧ w'.cell? ⟨(ad242.add ((x6_1).toNat * 5)).block, (ad242.add ((x6_1).toNat * 5)).off + 4, none⟩ = some (.int .i64 ((rd_T42 l0 x6_1).f2.f1))) (ds := []) #[false, false, false, false, false, false, false, false] (by kernel_rfl) rfl rfl ⟨(blk_cell BK243.out 0).trans rfl, (blk_cell BK243.out 1).trans rfl, (blk_cell BK243.out 2).trans rfl, (blk_cell BK243.out 3).trans rfl, (blk_cell BK243.out 4).trans rfl, ((HB.out.cell (World.block_lt_of_cell? w _ hw244_0)).trans hw244_0), ((HB.out.cell (World.block_lt_of_cell? w _ hw244_1)).trans hw244_1), ((HB.out.cell (World.block_lt_of_cell? w _ hw244_2)).trans hw244_2), ((HB.out.cell (World.block_lt_of_cell? w _ hw244_3)).trans hw244_3), ((HB.out.cell (World.block_lt_of_cell? w _ hw244_4)).trans hw244_4)⟩ (fun hHeld => ?_); refine with_tabW api_Zone_38.tab7 api_Zone_38.bits7 (fun HT_ HW_ => ?_)
             generalize wr.drew = w13 at BK241 BK243 HB hx244_0 hx244_1 hx244_2 hx244_3 hx244_4 hHeld ⊢
             refine pure_ (i := 0) (N := some 20) (v := ?_) (a' := ?_) #[true, false, false, false, false, false, false, false] rfl rfl (any_of HT_.out (by kernel_rfl)) (fun _ _ _ h => h) (Or.inl ⟨by rfl, ?_⟩) ?_ ?_
             rotate_left
             · intro w'
               go_simp
               with_reducible rfl
             rotate_left
             · simp only [Act.put, List.setIfInBounds_toArray, List.set_cons_zero, List.set_cons_succ, i64_w, i32_w]
               rfl
             refine pure_ (i := 1) (N := some 21) (v := ?_) (a' := ?_) #[true, true, false, false, false, false, false, false] rfl rfl (any_of HT_.out (by kernel_rfl)) (fun _ _ _ h => h) (Or.inl ⟨by rfl, ?_⟩) ?_ ?_
             rotate_left
             · intro w'
               go_simp
               with_reducible rfl
             rotate_left
             · simp only [Act.put, List.setIfInBounds_toArray, List.set_cons_zero, List.set_cons_succ, i64_w, i32_w]
               rfl
             refine pure_ (i := 2) (N := some 22) (v := ?_) (a' := ?_) #[true, true, true, false, false, false, false, false] rfl rfl (any_of HT_.out (by kernel_rfl)) (fun _ _ _ h => h) (Or.inl ⟨by rfl, ?_⟩) ?_ ?_
             rotate_left
             · intro w'
               go_simp
               with_reducible rfl
             rotate_left
             · simp only [Act.put, List.setIfInBounds_toArray, List.set_cons_zero, List.set_cons_succ, i64_w, i32_w]
               rfl
             refine pure_ (i := 3) (N := some 23) (v := ?_) (a' := ?_) #[true, true, true, true, false, false, false, false] rfl rfl (any_of HT_.out (by kernel_rfl)) (fun _ _ _ h => h) (Or.inl ⟨by rfl, ?_⟩) ?_ ?_
             rotate_left
             · intro w'
               go_simp
               with_reducible rfl
             rotate_left
             · simp only [Act.put, List.setIfInBounds_toArray, List.set_cons_zero, List.set_cons_succ, i64_w, i32_w]
               rfl
             refine take_ (i := 4) (N := some 24) (v := ?_) (a' := ?_) #[true, true, true, true, true, false, false, false] rfl rfl (take_ofW HT_.out HW_.out (by kernel_rfl)) (fun _ _ _ h => h) (Or.inl ⟨by rfl, ?_⟩) hHeld ?_ ?_
             rotate_left
             · rintro w' ⟨s0, s1, s2, s3, s4, s5, s6, s7, s8, s9⟩
               go_simp
               with_reducible rfl
             rotate_left
             · simp only [Act.put, List.setIfInBounds_toArray, List.set_cons_zero, List.set_cons_succ, i64_w, i32_w]
               rfl
             refine take_ (i := 5) (N := some 25) (v := ?_) (a' := ?_) #[true, true, true, true, true, true, false, false] rfl rfl (take_ofW HT_.out HW_.out (by kernel_rfl)) (fun _ _ _ h => h) (Or.inl ⟨by rfl, ?_⟩) hHeld ?_ ?_
             rotate_left
             · rintro w' ⟨s0, s1, s2, s3, s4, s5, s6, s7, s8, s9⟩
               go_simp
               with_reducible rfl
             rotate_left
             · simp only [Act.put, List.setIfInBounds_toArray, List.set_cons_zero, List.set_cons_succ, i64_w, i32_w]
               rfl
             refine one_ (i := 6) (N := some 26) #[true, true, true, true, true, true, true, false] rfl rfl (one_of HT_.out (by kernel_rfl)) (by decide) (fun K hK => ?_)
             refine goesT_ Tryz.func39 (by kernel_rfl) rfl #[.agg #[.int .i64 ((rd_T42 l0 x6_1).f0), .int .i64 ((rd_T42 l0 x6_1).f1.f0), .int .i64 ((rd_T42 l0 x6_1).f1.f1), .int .i64 ((rd_T42 l0 x6_1).f2.f0), .int .i64 ((rd_T42 l0 x6_1).f2.f1)], .agg #[.int .i64 x244000_1, .int .i64 x244001_1, .int .i64 x244002_1, .int .i64 x244003_1, .int .i64 x244004_1]] (by rfl) rfl rfl rfl (by (try simp only [List.map_toArray, List.map_cons, List.map_nil]); rfl) ?_
             with_reducible refine (zone_Least_1.calls k1 ((rd_T42 l0 x6_1).f0) ((rd_T42 l0 x6_1).f1.f0) ((rd_T42 l0 x6_1).f1.f1) ((rd_T42 l0 x6_1).f2.f0) ((rd_T42 l0 x6_1).f2.f1) x244000_1 x244001_1 x244002_1 x244003_1 x244004_1 t245 _ A11.out).mono ?_
             rintro e w14 ⟨rfl, hb⟩
             refine ⟨_, rfl, ?_⟩
             have n0_ := Aside0.mk (blk_below (g := gb241) (o := .cells #[.int .i64 0, .int .i64 0, .int .i64 0, .int .i64 0, .int .i64 0] 42 (0, 0)) (by (with_reducible repeat (fail)); exact BK241.out) hb)
             have n1_ := Aside0.mk (blk_below (g := gb243) (o := .cells #[.int .i64 x244000_1, .int .i64 x244001_1, .int .i64 x244002_1, .int .i64 x244003_1, .int .i64 x244004_1] 42 (0, 0)) (by (with_reducible repeat (fail)); exact BK243.out) hb)
             have n2_ := Aside0.mk (below_step (by repeat ((with_reducible exact HB.out))) hb)
             clear BK241
             clear BK243
             clear HB
             have BK241 := n0_
             have BK243 := n1_
             have HB := n2_
             clear n0_ n1_ n2_
             (try clear hb)
             (skip)
             (skip)
             (skip)
             refine hK.out _ _ ⟨(blk_cell BK243.out 0).trans rfl, (blk_cell BK243.out 1).trans rfl, (blk_cell BK243.out 2).trans rfl, (blk_cell BK243.out 3).trans rfl, (blk_cell BK243.out 4).trans rfl, ((HB.out.cell (World.block_lt_of_cell? w _ hw244_0)).trans hw244_0), ((HB.out.cell (World.block_lt_of_cell? w _ hw244_1)).trans hw244_1), ((HB.out.cell (World.block_lt_of_cell? w _ hw244_2)).trans hw244_2), ((HB.out.cell (World.block_lt_of_cell? w _ hw244_3)).trans hw244_3), ((HB.out.cell (World.block_lt_of_cell? w _ hw244_4)).trans hw244_4)⟩ (fun hHeld => ?_)
             clear hK K
             refine norm_ (a' := ?_) ?_ ?_
             rotate_left
             · show Act.put _ (some 26) _ = _
               simp only [Act.put, List.setIfInBounds_toArray, List.set_cons_zero, List.set_cons_succ, i64_w, i32_w]
               rfl
             refine pure_ (i := 7) (N := some 27) (v := ?_) (a' := ?_) #[true, true, true, true, true, true, true, true] rfl rfl (any_of HT_.out (by kernel_rfl)) (fun _ _ _ h => h) (Or.inl ⟨by rfl, ?_⟩) ?_ ?_
             rotate_left
             · intro w'
               go_simp
               with_reducible rfl
             rotate_left
             · simp only [Act.put, List.setIfInBounds_toArray, List.set_cons_zero, List.set_cons_succ, i64_w, i32_w]
               rfl
             refine done_ (done_of HT_.out (by kernel_rfl)) ?_
             have p246 : 0 ≤ (x6_1 : Int) := of_decide_eq_true (by (with_reducible assumption))
             have q246 : x6_1 < (l0.length : Int) := of_decide_eq_true (by (with_reducible assumption))
             obtain ⟨ad246, e246, hx246_0, hx246_1, hx246_2, hx246_3, hx246_4⟩ := at_T42 HR0.out x6_1 p246 q246
             obtain rfl : ad242 = ad246 := (by injection e246)
             replace hx246_0 := (HB.out.cell (World.block_lt_of_cell? w _ hx246_0)).trans hx246_0
             replace hx246_1 := (HB.out.cell (World.block_lt_of_cell? w _ hx246_1)).trans hx246_1
             replace hx246_2 := (HB.out.cell (World.block_lt_of_cell? w _ hx246_2)).trans hx246_2
             replace hx246_3 := (HB.out.cell (World.block_lt_of_cell? w _ hx246_3)).trans hx246_3
             replace hx246_4 := (HB.out.cell (World.block_lt_of_cell? w _ hx246_4)).trans hx246_4
             replace p246 := eq_true p246
             replace q246 := eq_true q246
             have hnb15 := NB243_241.out
             have hnc15 := NB241_243.out
             have hcz16_0 : w14.cell? ⟨gb243, 0, none⟩ = some (.int .i64 x244000_1) := (blk_cell BK243.out 0).trans rfl
             have hcz16_1 : w14.cell? ⟨gb243, 1, none⟩ = some (.int .i64 x244001_1) := (blk_cell BK243.out 1).trans rfl
             have hcz16_2 : w14.cell? ⟨gb243, 2, none⟩ = some (.int .i64 x244002_1) := (blk_cell BK243.out 2).trans rfl
             have hcz16_3 : w14.cell? ⟨gb243, 3, none⟩ = some (.int .i64 x244003_1) := (blk_cell BK243.out 3).trans rfl
             have hcz16_4 : w14.cell? ⟨gb243, 4, none⟩ = some (.int .i64 x244004_1) := (blk_cell BK243.out 4).trans rfl
             have hfz16_0 := blk_frozen BK243.out 0
             have hfz16_1 := blk_frozen BK243.out 1
             have hfz16_2 := blk_frozen BK243.out 2
             have hfz16_3 := blk_frozen BK243.out 3
             have hfz16_4 := blk_frozen BK243.out 4
             try go_wp2
             go_roundg k1
             case measure => have := HK1.out; omega
             case rel => exact ⟨(wrap64 (x6_1 + 1)), ((rd_T42 l0 x6_1).f0), ((rd_T42 l0 x6_1).f1.f0), ((rd_T42 l0 x6_1).f1.f1), ((rd_T42 l0 x6_1).f2.f0), ((rd_T42 l0 x6_1).f2.f1), (by rfl), H', ⟨by have := HK1.out; omega⟩, ⟨by (with_reducible repeat (fail)); refine blk_far ?_ NB241_243.out _; (with_reducible repeat (fail)); refine blk_far ?_ NB241_243.out _; (with_reducible repeat (fail)); refine blk_far ?_ NB241_243.out _; (with_reducible repeat (fail)); refine blk_far ?_ NB241_243.out _; (with_reducible repeat (fail)); refine blk_far ?_ NB241_243.out _; (with_reducible repeat (fail)); exact BK241.out⟩, ⟨by (with_reducible repeat (fail)); refine blk_put (cs := #[.int .i64 ((rd_T42 l0 x6_1).f0), .int .i64 ((rd_T42 l0 x6_1).f1.f0), .int .i64 ((rd_T42 l0 x6_1).f1.f1), .int .i64 ((rd_T42 l0 x6_1).f2.f0), .int .i64 x244004_1]) ?_ 4 _ rfl; (with_reducible repeat (fail)); refine blk_put (cs := #[.int .i64 ((rd_T42 l0 x6_1).f0), .int .i64 ((rd_T42 l0 x6_1).f1.f0), .int .i64 ((rd_T42 l0 x6_1).f1.f1), .int .i64 x244003_1, .int .i64 x244004_1]) ?_ 3 _ rfl; (with_reducible repeat (fail)); refine blk_put (cs := #[.int .i64 ((rd_T42 l0 x6_1).f0), .int .i64 ((rd_T42 l0 x6_1).f1.f0), .int .i64 x244002_1, .int .i64 x244003_1, .int .i64 x244004_1]) ?_ 2 _ rfl; (with_reducible repeat (fail)); refine blk_put (cs := #[.int .i64 ((rd_T42 l0 x6_1).f0), .int .i64 x244001_1, .int .i64 x244002_1, .int .i64 x244003_1, .int .i64 x244004_1]) ?_ 1 _ rfl; (with_reducible repeat (fail)); refine blk_put (cs := #[.int .i64 x244000_1, .int .i64 x244001_1, .int .i64 x244002_1, .int .i64 x244003_1, .int .i64 x244004_1]) ?_ 0 _ rfl; (with_reducible repeat (fail)); exact BK243.out⟩, ⟨by repeat ((with_reducible first | exact HB.out | refine below_set ?_ GE243.out))⟩⟩
           · rw [if_neg c12] at H
             have c12b0 : decide (t245 < 0) = false := decide_eq_false c12
             clear c12
             have H' := Aside0.mk H
             clear H
             try go_wp2
             have n0_ := Aside0.mk (blk_drew BK241.out)
             have n1_ := Aside0.mk (blk_drew BK243.out)
             have n2_ := Aside0.mk (below_drew1 HB.out)
             clear BK241
             clear BK243
             clear HB
             have BK241 := n0_
             have BK243 := n1_
             have HB := n2_
             clear n0_ n1_ n2_
             have p244 : 0 ≤ (x6_1 : Int) := of_decide_eq_true (by (with_reducible assumption))
             have q244 : x6_1 < (l0.length : Int) := of_decide_eq_true (by (with_reducible assumption))
             obtain ⟨ad244, e244, hx244_0, hx244_1, hx244_2, hx244_3, hx244_4⟩ := at_T42 HR0.out x6_1 p244 q244
             have hw244_4 := hx244_4
             have hw244_3 := hx244_3
             have hw244_2 := hx244_2
             have hw244_1 := hx244_1
             have hw244_0 := hx244_0
             obtain rfl : ad242 = ad244 := (by injection e244)
             replace hx244_0 := (HB.out.cell (World.block_lt_of_cell? w _ hx244_0)).trans hx244_0
             replace hx244_1 := (HB.out.cell (World.block_lt_of_cell? w _ hx244_1)).trans hx244_1
             replace hx244_2 := (HB.out.cell (World.block_lt_of_cell? w _ hx244_2)).trans hx244_2
             replace hx244_3 := (HB.out.cell (World.block_lt_of_cell? w _ hx244_3)).trans hx244_3
             replace hx244_4 := (HB.out.cell (World.block_lt_of_cell? w _ hx244_4)).trans hx244_4
             replace p244 := eq_true p244
             replace q244 := eq_true q244
             refine start_ (n := 8) (S := fun w' => w'.cell? ⟨gb243, 0, none⟩ = some (.int .i64 x244000_1) ∧ w'.cell? ⟨gb243, 1, none⟩ = some (.int .i64 x244001_1) ∧ w'.cell? ⟨gb243, 2, none⟩ = some (.int .i64 x244002_1) ∧ w'.cell? ⟨gb243, 3, none⟩ = some (.int .i64 x244003_1) ∧ w'.cell? ⟨gb243, 4, none⟩ = some (.int .i64 x244004_1) ∧ w'.cell? (ad242.add ((x6_1).toNat * 5)) = some (.int .i64 ((rd_T42 l0 x6_1).f0)) ∧ w'.cell? ⟨(ad242.add ((x6_1).toNat * 5)).block, (ad242.add ((x6_1).toNat * 5)).off + 1, none⟩ = some (.int .i64 ((rd_T42 l0 x6_1).f1.f0)) ∧ w'.cell? ⟨(ad242.add ((x6_1).toNat * 5)).block, (ad242.add ((x6_1).toNat * 5)).off + 2, none⟩ = some (.int .i64 ((rd_T42 l0 x6_1).f1.f1)) ∧ w'.cell? ⟨(ad242.add ((x6_1).toNat * 5)).block, (ad242.add ((x6_1).toNat * 5)).off + 3, none⟩ = some (.int .i64 ((rd_T42 l0 x6_1).f2.f0)) ∧ w'.cell? ⟨(ad242.add ((x6_1).toNat * 5)).block, (ad242.add ((x6_1).toNat * 5)).off + 4, none⟩ = some (.int .i64 ((rd_T42 l0 x6_1).f2.f1))) (ds := []) #[false, false, false, false, false, false, false, false] (by kernel_rfl) rfl rfl ⟨(blk_cell BK243.out 0).trans rfl, (blk_cell BK243.out 1).trans rfl, (blk_cell BK243.out 2).trans rfl, (blk_cell BK243.out 3).trans rfl, (blk_cell BK243.out 4).trans rfl, ((HB.out.cell (World.block_lt_of_cell? w _ hw244_0)).trans hw244_0), ((HB.out.cell (World.block_lt_of_cell? w _ hw244_1)).trans hw244_1), ((HB.out.cell (World.block_lt_of_cell? w _ hw244_2)).trans hw244_2), ((HB.out.cell (World.block_lt_of_cell? w _ hw244_3)).trans hw244_3), ((HB.out.cell (World.block_lt_of_cell? w _ hw244_4)).trans hw244_4)⟩ (fun hHeld => ?_); refine with_tabW api_Zone_38.tab7 api_Zone_38.bits7 (fun HT_ HW_ => ?_)
             generalize wr.drew = w17 at BK241 BK243 HB hx244_0 hx244_1 hx244_2 hx244_3 hx244_4 hHeld ⊢
             refine pure_ (i := 0) (N := some 20) (v := ?_) (a' := ?_) #[true, false, false, false, false, false, false, false] rfl rfl (any_of HT_.out (by kernel_rfl)) (fun _ _ _ h => h) (Or.inl ⟨by rfl, ?_⟩) ?_ ?_
             rotate_left
             · intro w'
               go_simp
               with_reducible rfl
             rotate_left
             · simp only [Act.put, List.setIfInBounds_toArray, List.set_cons_zero, List.set_cons_succ, i64_w, i32_w]
               rfl
             refine pure_ (i := 1) (N := some 21) (v := ?_) (a' := ?_) #[true, true, false, false, false, false, false, false] rfl rfl (any_of HT_.out (by kernel_rfl)) (fun _ _ _ h => h) (Or.inl ⟨by rfl, ?_⟩) ?_ ?_
             rotate_left
             · intro w'
               go_simp
               with_reducible rfl
             rotate_left
             · simp only [Act.put, List.setIfInBounds_toArray, List.set_cons_zero, List.set_cons_succ, i64_w, i32_w]
               rfl
             refine pure_ (i := 2) (N := some 22) (v := ?_) (a' := ?_) #[true, true, true, false, false, false, false, false] rfl rfl (any_of HT_.out (by kernel_rfl)) (fun _ _ _ h => h) (Or.inl ⟨by rfl, ?_⟩) ?_ ?_
             rotate_left
             · intro w'
               go_simp
               with_reducible rfl
             rotate_left
             · simp only [Act.put, List.setIfInBounds_toArray, List.set_cons_zero, List.set_cons_succ, i64_w, i32_w]
               rfl
             refine pure_ (i := 3) (N := some 23) (v := ?_) (a' := ?_) #[true, true, true, true, false, false, false, false] rfl rfl (any_of HT_.out (by kernel_rfl)) (fun _ _ _ h => h) (Or.inl ⟨by rfl, ?_⟩) ?_ ?_
             rotate_left
             · intro w'
               go_simp
               with_reducible rfl
             rotate_left
             · simp only [Act.put, List.setIfInBounds_toArray, List.set_cons_zero, List.set_cons_succ, i64_w, i32_w]
               rfl
             refine take_ (i := 4) (N := some 24) (v := ?_) (a' := ?_) #[true, true, true, true, true, false, false, false] rfl rfl (take_ofW HT_.out HW_.out (by kernel_rfl)) (fun _ _ _ h => h) (Or.inl ⟨by rfl, ?_⟩) hHeld ?_ ?_
             rotate_left
             · rintro w' ⟨s0, s1, s2, s3, s4, s5, s6, s7, s8, s9⟩
               go_simp
               with_reducible rfl
             rotate_left
             · simp only [Act.put, List.setIfInBounds_toArray, List.set_cons_zero, List.set_cons_succ, i64_w, i32_w]
               rfl
             refine take_ (i := 5) (N := some 25) (v := ?_) (a' := ?_) #[true, true, true, true, true, true, false, false] rfl rfl (take_ofW HT_.out HW_.out (by kernel_rfl)) (fun _ _ _ h => h) (Or.inl ⟨by rfl, ?_⟩) hHeld ?_ ?_
             rotate_left
             · rintro w' ⟨s0, s1, s2, s3, s4, s5, s6, s7, s8, s9⟩
               go_simp
               with_reducible rfl
             rotate_left
             · simp only [Act.put, List.setIfInBounds_toArray, List.set_cons_zero, List.set_cons_succ, i64_w, i32_w]
               rfl
             refine one_ (i := 6) (N := some 26) #[true, true, true, true, true, true, true, false] rfl rfl (one_of HT_.out (by kernel_rfl)) (by decide) (fun K hK => ?_)
             refine goesT_ Tryz.func39 (by kernel_rfl) rfl #[.agg #[.int .i64 ((rd_T42 l0 x6_1).f0), .int .i64 ((rd_T42 l0 x6_1).f1.f0), .int .i64 ((rd_T42 l0 x6_1).f1.f1), .int .i64 ((rd_T42 l0 x6_1).f2.f0), .int .i64 ((rd_T42 l0 x6_1).f2.f1)], .agg #[.int .i64 x244000_1, .int .i64 x244001_1, .int .i64 x244002_1, .int .i64 x244003_1, .int .i64 x244004_1]] (by rfl) rfl rfl rfl (by (try simp only [List.map_toArray, List.map_cons, List.map_nil]); rfl) ?_
             with_reducible refine (zone_Least_1.calls k1 ((rd_T42 l0 x6_1).f0) ((rd_T42 l0 x6_1).f1.f0) ((rd_T42 l0 x6_1).f1.f1) ((rd_T42 l0 x6_1).f2.f0) ((rd_T42 l0 x6_1).f2.f1) x244000_1 x244001_1 x244002_1 x244003_1 x244004_1 t245 _ A11.out).mono ?_
             rintro e w18 ⟨rfl, hb⟩
             refine ⟨_, rfl, ?_⟩
             have n0_ := Aside0.mk (blk_below (g := gb241) (o := .cells #[.int .i64 0, .int .i64 0, .int .i64 0, .int .i64 0, .int .i64 0] 42 (0, 0)) (by (with_reducible repeat (fail)); exact BK241.out) hb)
             have n1_ := Aside0.mk (blk_below (g := gb243) (o := .cells #[.int .i64 x244000_1, .int .i64 x244001_1, .int .i64 x244002_1, .int .i64 x244003_1, .int .i64 x244004_1] 42 (0, 0)) (by (with_reducible repeat (fail)); exact BK243.out) hb)
             have n2_ := Aside0.mk (below_step (by repeat ((with_reducible exact HB.out))) hb)
             clear BK241
             clear BK243
             clear HB
             have BK241 := n0_
             have BK243 := n1_
             have HB := n2_
             clear n0_ n1_ n2_
             (try clear hb)
             (skip)
             (skip)
             (skip)
             refine hK.out _ _ ⟨(blk_cell BK243.out 0).trans rfl, (blk_cell BK243.out 1).trans rfl, (blk_cell BK243.out 2).trans rfl, (blk_cell BK243.out 3).trans rfl, (blk_cell BK243.out 4).trans rfl, ((HB.out.cell (World.block_lt_of_cell? w _ hw244_0)).trans hw244_0), ((HB.out.cell (World.block_lt_of_cell? w _ hw244_1)).trans hw244_1), ((HB.out.cell (World.block_lt_of_cell? w _ hw244_2)).trans hw244_2), ((HB.out.cell (World.block_lt_of_cell? w _ hw244_3)).trans hw244_3), ((HB.out.cell (World.block_lt_of_cell? w _ hw244_4)).trans hw244_4)⟩ (fun hHeld => ?_)
             clear hK K
             refine norm_ (a' := ?_) ?_ ?_
             rotate_left
             · show Act.put _ (some 26) _ = _
               simp only [Act.put, List.setIfInBounds_toArray, List.set_cons_zero, List.set_cons_succ, i64_w, i32_w]
               rfl
             refine pure_ (i := 7) (N := some 27) (v := ?_) (a' := ?_) #[true, true, true, true, true, true, true, true] rfl rfl (any_of HT_.out (by kernel_rfl)) (fun _ _ _ h => h) (Or.inl ⟨by rfl, ?_⟩) ?_ ?_
             rotate_left
             · intro w'
               go_simp
               with_reducible rfl
             rotate_left
             · simp only [Act.put, List.setIfInBounds_toArray, List.set_cons_zero, List.set_cons_succ, i64_w, i32_w]
               rfl
             refine done_ (done_of HT_.out (by kernel_rfl)) ?_
             try go_wp2
             go_roundg k1
             case measure => have := HK1.out; omega
             case rel => exact ⟨(wrap64 (x6_1 + 1)), (x244000_1), (x244001_1), (x244002_1), (x244003_1), (x244004_1), (by rfl), H', ⟨by have := HK1.out; omega⟩, ⟨by (with_reducible repeat (fail)); exact BK241.out⟩, ⟨by (with_reducible repeat (fail)); exact BK243.out⟩, ⟨by repeat ((with_reducible exact HB.out))⟩⟩
         · rw [if_neg c10] at H
           exact absurd H (by simp)
       · rw [if_neg c9] at H
         have c9b0 : decide (x6_1 < (l0.length : Int)) = false := decide_eq_false c9
         clear c9
         simp only [Option.some.injEq, Prod.mk.injEq] at H
         obtain ⟨rfl, rfl, rfl, rfl, rfl⟩ := H
         have hnb19 := NB243_241.out
         have hnc19 := NB241_243.out
         have hcz20_0 : wr.cell? ⟨gb243, 0, none⟩ = some (.int .i64 x244000_1) := (blk_cell BK243.out 0).trans rfl
         have hcz20_1 : wr.cell? ⟨gb243, 1, none⟩ = some (.int .i64 x244001_1) := (blk_cell BK243.out 1).trans rfl
         have hcz20_2 : wr.cell? ⟨gb243, 2, none⟩ = some (.int .i64 x244002_1) := (blk_cell BK243.out 2).trans rfl
         have hcz20_3 : wr.cell? ⟨gb243, 3, none⟩ = some (.int .i64 x244003_1) := (blk_cell BK243.out 3).trans rfl
         have hcz20_4 : wr.cell? ⟨gb243, 4, none⟩ = some (.int .i64 x244004_1) := (blk_cell BK243.out 4).trans rfl
         have hfz20_0 := blk_frozen BK243.out 0
         have hfz20_1 := blk_frozen BK243.out 1
         have hfz20_2 := blk_frozen BK243.out 2
         have hfz20_3 := blk_frozen BK243.out 3
         have hfz20_4 := blk_frozen BK243.out 4
         have hcz21_0 : wr.cell? ⟨gb241, 0, none⟩ = some (.int .i64 0) := (blk_cell BK241.out 0).trans rfl
         have hcz21_1 : wr.cell? ⟨gb241, 1, none⟩ = some (.int .i64 0) := (blk_cell BK241.out 1).trans rfl
         have hcz21_2 : wr.cell? ⟨gb241, 2, none⟩ = some (.int .i64 0) := (blk_cell BK241.out 2).trans rfl
         have hcz21_3 : wr.cell? ⟨gb241, 3, none⟩ = some (.int .i64 0) := (blk_cell BK241.out 3).trans rfl
         have hcz21_4 : wr.cell? ⟨gb241, 4, none⟩ = some (.int .i64 0) := (blk_cell BK241.out 4).trans rfl
         have hfz21_0 := blk_frozen BK241.out 0
         have hfz21_1 := blk_frozen BK241.out 1
         have hfz21_2 := blk_frozen BK241.out 2
         have hfz21_3 := blk_frozen BK241.out 3
         have hfz21_4 := blk_frozen BK241.out 4
         go_wp2
         refine bodyPost_ret (results_cell_row rfl _ _ gb241 42 #[.int .i64 x244000_1, .int .i64 x244001_1, .int .i64 x244002_1, .int .i64 x244003_1, .int .i64 x244004_1] (0, 0) _ rfl (by (with_reducible repeat (fail)); refine blk_put (cs := #[.int .i64 x244000_1, .int .i64 x244001_1, .int .i64 x244002_1, .int .i64 x244003_1, .int .i64 0]) ?_ 4 _ rfl; (with_reducible repeat (fail)); refine blk_put (cs := #[.int .i64 x244000_1, .int .i64 x244001_1, .int .i64 x244002_1, .int .i64 0, .int .i64 0]) ?_ 3 _ rfl; (with_reducible repeat (fail)); refine blk_put (cs := #[.int .i64 x244000_1, .int .i64 x244001_1, .int .i64 0, .int .i64 0, .int .i64 0]) ?_ 2 _ rfl; (with_reducible repeat (fail)); refine blk_put (cs := #[.int .i64 x244000_1, .int .i64 0, .int .i64 0, .int .i64 0, .int .i64 0]) ?_ 1 _ rfl; (with_reducible repeat (fail)); refine blk_put (cs := #[.int .i64 0, .int .i64 0, .int .i64 0, .int .i64 0, .int .i64 0]) ?_ 0 _ rfl; (with_reducible repeat (fail)); exact BK241.out) Tryz.underlying42 rfl (by kernel_rfl)) rfl ?_
         exact ⟨by rfl, by repeat ((with_reducible first | exact HB.out | refine below_set ?_ GE241.out))⟩
   · rw [if_neg c4] at H
     exact absurd H (by simp)
end Go.Proofs.YtacohlafmbhcdaaGreat.PAll
