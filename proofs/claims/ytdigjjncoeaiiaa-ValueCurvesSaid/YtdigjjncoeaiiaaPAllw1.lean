/- Printed by a program of this session (wip/gprint.py) over the translation, cut to what is named (wip/dcut.py). Not trusted: Lean checks it. -/
import Derived.Test.YtdigjjncoeaiiaaPAlld0
import Derived.Test.YtdigjjncoeaiiaaPAllw7
namespace Go.Proofs.Ytdigjjncoeaiiaa.PAll
open Go.RowKit Go.Proofs.YtdigjjncoeaiiaaW.PrintWords Go.Proofs.YtdigjjncoeaiiaaW.PrintLast Go.Proofs.YtdigjjncoeaiiaaW.PrintMore
attribute [local go_sem] max2_int min2_int max_two min_two max_three min_three max_four min_four -- for this text's walks alone
set_option linter.unusedVariables false
set_option linter.unusedSimpArgs false
section
set_option maxHeartbeats 8000000 in
set_option maxRecDepth 100000 in
theorem value_shapeOf.calls (k : Nat) (a0 : Int) (r1 : Int) (r2 : Int) (r3 : Int) (r4 : Bool) (w : World) (h : value_shapeOf.f k a0 = some (r1, r2, r3, r4)) :
    Calls Try.prog 61 #[.int .i64 a0] w fun e w' => e = .returned (.tuple #[.agg #[.int .i64 r1, .int .i64 r2, .int .i64 r3], .bool r4]) ∧ Below w.heap.size w w' := by
  have hu89 := Try.underlying89
  have HB := Aside0.mk (Below.refl w.heap.size w)
  have H : (if a0 = 1 then (some ((-1000000), 1000000, 0, true)) else (if a0 = 2 then (value_shapeOf.j0 k a0 (a0 == 2)) else (value_shapeOf.j0 k a0 (a0 == 3)))) = some (r1, r2, r3, r4) := h
  clear h
  by_cases c2 : a0 = 1
  · rw [if_pos c2] at H
    have c2b0 : (a0 == 1) = true := beq_iff_eq.mpr c2
    have c2b1 : (a0 != 1) = false := bne_eq_false_iff_eq.mpr c2
    clear c2
    simp only [Option.some.injEq, Prod.mk.injEq] at H
    obtain ⟨rfl, rfl, rfl, rfl⟩ := H
    go_enter Try.func61, Try.ntmps61
    go_wp2_with (first | ((with_reducible refine gate_dst (N := 2) rfl ?_); refine box_event ?hg (N := 2) ?hd (cs := #[.int .i64 0, .int .i64 0, .int .i64 0]) (t := 89) ?hr ?_; (case hd => rfl); (case hg => rfl); (case hr => first | (go_simp; done) | (go_simp; rfl)); intro gb148 hg w3 hbox hb; have BK148 := Aside0.mk (hbox); have GW148 := Aside0.mk ((by rw [hg]; exact (below_size (by repeat (first | (with_reducible first | exact HB.out | apply below_alloc | apply pw_below_drewN | apply below_drew1) | exact HB.out))) : w.heap.size ≤ gb148)); have GE148 := Aside0.mk ((by rw [hg]; exact (below_size (by repeat (first | (with_reducible first | exact HB.out | apply below_alloc | apply pw_below_drewN | apply below_drew1) | exact HB.out))) : w.heap.size ≤ gb148)); replace HB := Aside0.mk (below_step (by repeat (first | (with_reducible first | exact HB.out | apply below_alloc | apply pw_below_drewN | apply below_drew1) | exact HB.out)) hb); clear hb hbox hg; have hcz4_0 : w3.cell? ⟨gb148, 0, none⟩ = some (.int .i64 0) := (blk_cell BK148.out 0).trans rfl; have hcz4_1 : w3.cell? ⟨gb148, 1, none⟩ = some (.int .i64 0) := (blk_cell BK148.out 1).trans rfl; have hcz4_2 : w3.cell? ⟨gb148, 2, none⟩ = some (.int .i64 0) := (blk_cell BK148.out 2).trans rfl; have hfz4_0 := blk_frozen BK148.out 0; have hfz4_1 := blk_frozen BK148.out 1; have hfz4_2 := blk_frozen BK148.out 2))
    refine bodyPost_ret (results_ct rfl _ _ gb148 89 #[.int .i64 (-1000000), .int .i64 1000000, .int .i64 0] (0, 0) _ rfl (by (with_reducible repeat (first | refine blk_drewN ?_ _ | refine blk_drew ?_ | refine blk_alloc ?_ _)); refine blk_put (cs := #[.int .i64 (-1000000), .int .i64 1000000, .int .i64 0]) ?_ 2 _ rfl; (with_reducible repeat (first | refine blk_drewN ?_ _ | refine blk_drew ?_ | refine blk_alloc ?_ _)); refine blk_put (cs := #[.int .i64 (-1000000), .int .i64 0, .int .i64 0]) ?_ 1 _ rfl; (with_reducible repeat (first | refine blk_drewN ?_ _ | refine blk_drew ?_ | refine blk_alloc ?_ _)); refine blk_put (cs := #[.int .i64 0, .int .i64 0, .int .i64 0]) ?_ 0 _ rfl; (with_reducible repeat (first | refine blk_drewN ?_ _ | refine blk_drew ?_ | refine blk_alloc ?_ _)); exact BK148.out) Try.underlying89 rfl (by kernel_rfl)) rfl ?_
    exact ⟨by first | rfl | (simp [errW_none, errW_some] <;> rfl) | (simp [*, errW_none, errW_some] <;> rfl), by repeat (first | (with_reducible first | exact HB.out | apply below_alloc | apply pw_below_drewN | apply below_drew1 | refine below_set ?_ GE148.out) | exact HB.out)⟩
  · rw [if_neg c2] at H
    have c2b0 : (a0 == 1) = false := beq_eq_false_iff_ne.mpr c2
    have c2b1 : (a0 != 1) = true := bne_iff_ne.mpr c2
    have HC5 := Aside0.mk H
    clear H
    go_enter Try.func61, Try.ntmps61
    go_upto_if 8 with (first | ((with_reducible refine gate_dst (N := 2) rfl ?_); refine box_event ?hg (N := 2) ?hd (cs := #[.int .i64 0, .int .i64 0, .int .i64 0]) (t := 89) ?hr ?_; (case hd => rfl); (case hg => rfl); (case hr => first | (go_simp; done) | (go_simp; rfl)); intro gb148 hg w6 hbox hb; have BK148 := Aside0.mk (hbox); have GW148 := Aside0.mk ((by rw [hg]; exact (below_size (by repeat (first | (with_reducible first | exact HB.out | apply below_alloc | apply pw_below_drewN | apply below_drew1) | exact HB.out))) : w.heap.size ≤ gb148)); have GE148 := Aside0.mk ((by rw [hg]; exact (below_size (by repeat (first | (with_reducible first | exact HB.out | apply below_alloc | apply pw_below_drewN | apply below_drew1) | exact HB.out))) : w.heap.size ≤ gb148)); replace HB := Aside0.mk (below_step (by repeat (first | (with_reducible first | exact HB.out | apply below_alloc | apply pw_below_drewN | apply below_drew1) | exact HB.out)) hb); clear hb hbox hg))
    (try simp only [Act.put, List.setIfInBounds_toArray, List.set_cons_zero, List.set_cons_succ])
    go_cut [8] (fun v8 wc => ∃ (kq : Nat) (x8_4 : Bool), v8 = .bool x8_4 ∧ Aside0 (value_shapeOf.j0 kq a0 x8_4 = some (r1, r2, r3, r4)) ∧ Aside0 (kq ≤ k) ∧ Aside0 (wc.heap[gb148]? = some (.cells #[.int .i64 0, .int .i64 0, .int .i64 0] 89 (0, 0))) ∧ Aside0 (Below w.heap.size w wc))
    case first =>
      have H := HC5.out
      clear HC5
      by_cases c7 : a0 = 2
      · rw [if_pos c7] at H
        have c7b0 : (a0 == 2) = true := beq_iff_eq.mpr c7
        have c7b1 : (a0 != 2) = false := bne_eq_false_iff_eq.mpr c7
        clear c7
        (first | rw [c7b0] | (simp only [i64_w, i32_w]; rw [c7b0]) | skip)
        have H' := Aside0.mk H
        clear H
        go_wp2
        go_meet
        case rel => exact ⟨_, ((a0 == 2)), (by first | rfl | (simp; done) | (simp [*]; done)), H', ⟨by first | omega | exact Nat.le_refl _⟩, ⟨by (with_reducible repeat (first | refine blk_drewN ?_ _ | refine blk_drew ?_ | refine blk_alloc ?_ _)); exact BK148.out⟩, ⟨by repeat (first | (with_reducible first | exact HB.out | apply below_alloc | apply pw_below_drewN | apply below_drew1 | refine below_set ?_ GE148.out) | exact HB.out)⟩⟩
      · rw [if_neg c7] at H
        have c7b0 : (a0 == 2) = false := beq_eq_false_iff_ne.mpr c7
        have c7b1 : (a0 != 2) = true := bne_iff_ne.mpr c7
        (first | rw [c7b0] | (simp only [i64_w, i32_w]; rw [c7b0]) | skip)
        have H' := Aside0.mk H
        clear H
        go_wp2
        go_meet
        case rel => exact ⟨_, ((a0 == 3)), (by first | rfl | (simp; done) | (simp [*]; done)), H', ⟨by first | omega | exact Nat.le_refl _⟩, ⟨by (with_reducible repeat (first | refine blk_drewN ?_ _ | refine blk_drew ?_ | refine blk_alloc ?_ _)); exact BK148.out⟩, ⟨by repeat (first | (with_reducible first | exact HB.out | apply below_alloc | apply pw_below_drewN | apply below_drew1 | refine below_set ?_ GE148.out) | exact HB.out)⟩⟩
    case rest =>
      clear HC5
      try clear c2
      try clear c2b0
      try clear c2b1
      try clear p2
      try clear c6
      try clear c7
      try clear c7b0
      try clear c7b1
      try clear hcz4_0
      try clear hcz4_1
      try clear hcz4_2
      try clear hfz4_0
      try clear hfz4_1
      try clear hfz4_2
      obtain ⟨kq, x8_4, rfl, HA, HJ4, BK148, HB⟩ := hcut
      cases kq with
      | zero => exact absurd HA.out (by simp [value_shapeOf.j0])
      | succ kj4 =>
        have H := HA.out
        clear HA
        simp only [value_shapeOf.j0] at H
        by_cases c8 : x8_4 = true
        · subst c8
          have H1 : (some ((-10000), 10000, 0, true)) = some (r1, r2, r3, r4) := by rw [if_pos rfl] at H; exact H
          clear H
          have H := H1
          clear H1
          simp only [Option.some.injEq, Prod.mk.injEq] at H
          obtain ⟨rfl, rfl, rfl, rfl⟩ := H
          have hcz9_0 : wc.cell? ⟨gb148, 0, none⟩ = some (.int .i64 0) := (blk_cell BK148.out 0).trans rfl
          have hcz9_1 : wc.cell? ⟨gb148, 1, none⟩ = some (.int .i64 0) := (blk_cell BK148.out 1).trans rfl
          have hcz9_2 : wc.cell? ⟨gb148, 2, none⟩ = some (.int .i64 0) := (blk_cell BK148.out 2).trans rfl
          have hfz9_0 := blk_frozen BK148.out 0
          have hfz9_1 := blk_frozen BK148.out 1
          have hfz9_2 := blk_frozen BK148.out 2
          go_wp2
          refine bodyPost_ret (results_ct rfl _ _ gb148 89 #[.int .i64 (-10000), .int .i64 10000, .int .i64 0] (0, 0) _ rfl (by (with_reducible repeat (first | refine blk_drewN ?_ _ | refine blk_drew ?_ | refine blk_alloc ?_ _)); refine blk_put (cs := #[.int .i64 (-10000), .int .i64 10000, .int .i64 0]) ?_ 2 _ rfl; (with_reducible repeat (first | refine blk_drewN ?_ _ | refine blk_drew ?_ | refine blk_alloc ?_ _)); refine blk_put (cs := #[.int .i64 (-10000), .int .i64 0, .int .i64 0]) ?_ 1 _ rfl; (with_reducible repeat (first | refine blk_drewN ?_ _ | refine blk_drew ?_ | refine blk_alloc ?_ _)); refine blk_put (cs := #[.int .i64 0, .int .i64 0, .int .i64 0]) ?_ 0 _ rfl; (with_reducible repeat (first | refine blk_drewN ?_ _ | refine blk_drew ?_ | refine blk_alloc ?_ _)); exact BK148.out) Try.underlying89 rfl (by kernel_rfl)) rfl ?_
          exact ⟨by first | rfl | (simp [errW_none, errW_some] <;> rfl) | (simp [*, errW_none, errW_some] <;> rfl), by repeat (first | (with_reducible first | exact HB.out | apply below_alloc | apply pw_below_drewN | apply below_drew1 | refine below_set ?_ GE148.out) | exact HB.out)⟩
        · replace c8 := Bool.eq_false_iff.mpr c8
          subst c8
          have H1 : (if a0 = 4 then (some (1, 8, 0, true)) else (if a0 = 7 then (some ((-1000), 1000, 1, true)) else (if a0 = 8 then (some (1, 1000, 1, true)) else (if a0 = 5 then (some (0, 0, 2, true)) else (if a0 = 6 then (some (0, 0, 2, true)) else (if a0 = 9 then (some (0, 0, 2, true)) else (if a0 = 10 then (some (0, 0, 2, true)) else (some (0, 0, 0, false))))))))) = some (r1, r2, r3, r4) := by rw [if_neg (show ¬ (false = true) by decide)] at H; exact H
          clear H
          have H := H1
          clear H1
          by_cases c10 : a0 = 4
          · rw [if_pos c10] at H
            have c10b0 : (a0 == 4) = true := beq_iff_eq.mpr c10
            have c10b1 : (a0 != 4) = false := bne_eq_false_iff_eq.mpr c10
            clear c10
            simp only [Option.some.injEq, Prod.mk.injEq] at H
            obtain ⟨rfl, rfl, rfl, rfl⟩ := H
            have hcz11_0 : wc.cell? ⟨gb148, 0, none⟩ = some (.int .i64 0) := (blk_cell BK148.out 0).trans rfl
            have hcz11_1 : wc.cell? ⟨gb148, 1, none⟩ = some (.int .i64 0) := (blk_cell BK148.out 1).trans rfl
            have hcz11_2 : wc.cell? ⟨gb148, 2, none⟩ = some (.int .i64 0) := (blk_cell BK148.out 2).trans rfl
            have hfz11_0 := blk_frozen BK148.out 0
            have hfz11_1 := blk_frozen BK148.out 1
            have hfz11_2 := blk_frozen BK148.out 2
            go_wp2
            refine bodyPost_ret (results_ct rfl _ _ gb148 89 #[.int .i64 1, .int .i64 8, .int .i64 0] (0, 0) _ rfl (by (with_reducible repeat (first | refine blk_drewN ?_ _ | refine blk_drew ?_ | refine blk_alloc ?_ _)); refine blk_put (cs := #[.int .i64 1, .int .i64 8, .int .i64 0]) ?_ 2 _ rfl; (with_reducible repeat (first | refine blk_drewN ?_ _ | refine blk_drew ?_ | refine blk_alloc ?_ _)); refine blk_put (cs := #[.int .i64 1, .int .i64 0, .int .i64 0]) ?_ 1 _ rfl; (with_reducible repeat (first | refine blk_drewN ?_ _ | refine blk_drew ?_ | refine blk_alloc ?_ _)); refine blk_put (cs := #[.int .i64 0, .int .i64 0, .int .i64 0]) ?_ 0 _ rfl; (with_reducible repeat (first | refine blk_drewN ?_ _ | refine blk_drew ?_ | refine blk_alloc ?_ _)); exact BK148.out) Try.underlying89 rfl (by kernel_rfl)) rfl ?_
            exact ⟨by first | rfl | (simp [errW_none, errW_some] <;> rfl) | (simp [*, errW_none, errW_some] <;> rfl), by repeat (first | (with_reducible first | exact HB.out | apply below_alloc | apply pw_below_drewN | apply below_drew1 | refine below_set ?_ GE148.out) | exact HB.out)⟩
          · rw [if_neg c10] at H
            have c10b0 : (a0 == 4) = false := beq_eq_false_iff_ne.mpr c10
            have c10b1 : (a0 != 4) = true := bne_iff_ne.mpr c10
            by_cases c12 : a0 = 7
            · rw [if_pos c12] at H
              have c12b0 : (a0 == 7) = true := beq_iff_eq.mpr c12
              have c12b1 : (a0 != 7) = false := bne_eq_false_iff_eq.mpr c12
              clear c12
              simp only [Option.some.injEq, Prod.mk.injEq] at H
              obtain ⟨rfl, rfl, rfl, rfl⟩ := H
              have hcz13_0 : wc.cell? ⟨gb148, 0, none⟩ = some (.int .i64 0) := (blk_cell BK148.out 0).trans rfl
              have hcz13_1 : wc.cell? ⟨gb148, 1, none⟩ = some (.int .i64 0) := (blk_cell BK148.out 1).trans rfl
              have hcz13_2 : wc.cell? ⟨gb148, 2, none⟩ = some (.int .i64 0) := (blk_cell BK148.out 2).trans rfl
              have hfz13_0 := blk_frozen BK148.out 0
              have hfz13_1 := blk_frozen BK148.out 1
              have hfz13_2 := blk_frozen BK148.out 2
              go_wp2
              refine bodyPost_ret (results_ct rfl _ _ gb148 89 #[.int .i64 (-1000), .int .i64 1000, .int .i64 1] (0, 0) _ rfl (by (with_reducible repeat (first | refine blk_drewN ?_ _ | refine blk_drew ?_ | refine blk_alloc ?_ _)); refine blk_put (cs := #[.int .i64 (-1000), .int .i64 1000, .int .i64 0]) ?_ 2 _ rfl; (with_reducible repeat (first | refine blk_drewN ?_ _ | refine blk_drew ?_ | refine blk_alloc ?_ _)); refine blk_put (cs := #[.int .i64 (-1000), .int .i64 0, .int .i64 0]) ?_ 1 _ rfl; (with_reducible repeat (first | refine blk_drewN ?_ _ | refine blk_drew ?_ | refine blk_alloc ?_ _)); refine blk_put (cs := #[.int .i64 0, .int .i64 0, .int .i64 0]) ?_ 0 _ rfl; (with_reducible repeat (first | refine blk_drewN ?_ _ | refine blk_drew ?_ | refine blk_alloc ?_ _)); exact BK148.out) Try.underlying89 rfl (by kernel_rfl)) rfl ?_
              exact ⟨by first | rfl | (simp [errW_none, errW_some] <;> rfl) | (simp [*, errW_none, errW_some] <;> rfl), by repeat (first | (with_reducible first | exact HB.out | apply below_alloc | apply pw_below_drewN | apply below_drew1 | refine below_set ?_ GE148.out) | exact HB.out)⟩
            · rw [if_neg c12] at H
              have c12b0 : (a0 == 7) = false := beq_eq_false_iff_ne.mpr c12
              have c12b1 : (a0 != 7) = true := bne_iff_ne.mpr c12
              by_cases c14 : a0 = 8
              · rw [if_pos c14] at H
                have c14b0 : (a0 == 8) = true := beq_iff_eq.mpr c14
                have c14b1 : (a0 != 8) = false := bne_eq_false_iff_eq.mpr c14
                clear c14
                simp only [Option.some.injEq, Prod.mk.injEq] at H
                obtain ⟨rfl, rfl, rfl, rfl⟩ := H
                have hcz15_0 : wc.cell? ⟨gb148, 0, none⟩ = some (.int .i64 0) := (blk_cell BK148.out 0).trans rfl
                have hcz15_1 : wc.cell? ⟨gb148, 1, none⟩ = some (.int .i64 0) := (blk_cell BK148.out 1).trans rfl
                have hcz15_2 : wc.cell? ⟨gb148, 2, none⟩ = some (.int .i64 0) := (blk_cell BK148.out 2).trans rfl
                have hfz15_0 := blk_frozen BK148.out 0
                have hfz15_1 := blk_frozen BK148.out 1
                have hfz15_2 := blk_frozen BK148.out 2
                go_wp2
                refine bodyPost_ret (results_ct rfl _ _ gb148 89 #[.int .i64 1, .int .i64 1000, .int .i64 1] (0, 0) _ rfl (by (with_reducible repeat (first | refine blk_drewN ?_ _ | refine blk_drew ?_ | refine blk_alloc ?_ _)); refine blk_put (cs := #[.int .i64 1, .int .i64 1000, .int .i64 0]) ?_ 2 _ rfl; (with_reducible repeat (first | refine blk_drewN ?_ _ | refine blk_drew ?_ | refine blk_alloc ?_ _)); refine blk_put (cs := #[.int .i64 1, .int .i64 0, .int .i64 0]) ?_ 1 _ rfl; (with_reducible repeat (first | refine blk_drewN ?_ _ | refine blk_drew ?_ | refine blk_alloc ?_ _)); refine blk_put (cs := #[.int .i64 0, .int .i64 0, .int .i64 0]) ?_ 0 _ rfl; (with_reducible repeat (first | refine blk_drewN ?_ _ | refine blk_drew ?_ | refine blk_alloc ?_ _)); exact BK148.out) Try.underlying89 rfl (by kernel_rfl)) rfl ?_
                exact ⟨by first | rfl | (simp [errW_none, errW_some] <;> rfl) | (simp [*, errW_none, errW_some] <;> rfl), by repeat (first | (with_reducible first | exact HB.out | apply below_alloc | apply pw_below_drewN | apply below_drew1 | refine below_set ?_ GE148.out) | exact HB.out)⟩
              · rw [if_neg c14] at H
                have c14b0 : (a0 == 8) = false := beq_eq_false_iff_ne.mpr c14
                have c14b1 : (a0 != 8) = true := bne_iff_ne.mpr c14
                by_cases c16 : a0 = 5
                · rw [if_pos c16] at H
                  have c16b0 : (a0 == 5) = true := beq_iff_eq.mpr c16
                  have c16b1 : (a0 != 5) = false := bne_eq_false_iff_eq.mpr c16
                  clear c16
                  simp only [Option.some.injEq, Prod.mk.injEq] at H
                  obtain ⟨rfl, rfl, rfl, rfl⟩ := H
                  have hcz17_0 : wc.cell? ⟨gb148, 0, none⟩ = some (.int .i64 0) := (blk_cell BK148.out 0).trans rfl
                  have hcz17_1 : wc.cell? ⟨gb148, 1, none⟩ = some (.int .i64 0) := (blk_cell BK148.out 1).trans rfl
                  have hcz17_2 : wc.cell? ⟨gb148, 2, none⟩ = some (.int .i64 0) := (blk_cell BK148.out 2).trans rfl
                  have hfz17_0 := blk_frozen BK148.out 0
                  have hfz17_1 := blk_frozen BK148.out 1
                  have hfz17_2 := blk_frozen BK148.out 2
                  go_wp2
                  refine bodyPost_ret (results_ct rfl _ _ gb148 89 #[.int .i64 0, .int .i64 0, .int .i64 2] (0, 0) _ rfl (by (with_reducible repeat (first | refine blk_drewN ?_ _ | refine blk_drew ?_ | refine blk_alloc ?_ _)); refine blk_put (cs := #[.int .i64 0, .int .i64 0, .int .i64 0]) ?_ 2 _ rfl; (with_reducible repeat (first | refine blk_drewN ?_ _ | refine blk_drew ?_ | refine blk_alloc ?_ _)); refine blk_put (cs := #[.int .i64 0, .int .i64 0, .int .i64 0]) ?_ 1 _ rfl; (with_reducible repeat (first | refine blk_drewN ?_ _ | refine blk_drew ?_ | refine blk_alloc ?_ _)); refine blk_put (cs := #[.int .i64 0, .int .i64 0, .int .i64 0]) ?_ 0 _ rfl; (with_reducible repeat (first | refine blk_drewN ?_ _ | refine blk_drew ?_ | refine blk_alloc ?_ _)); exact BK148.out) Try.underlying89 rfl (by kernel_rfl)) rfl ?_
                  exact ⟨by first | rfl | (simp [errW_none, errW_some] <;> rfl) | (simp [*, errW_none, errW_some] <;> rfl), by repeat (first | (with_reducible first | exact HB.out | apply below_alloc | apply pw_below_drewN | apply below_drew1 | refine below_set ?_ GE148.out) | exact HB.out)⟩
                · rw [if_neg c16] at H
                  have c16b0 : (a0 == 5) = false := beq_eq_false_iff_ne.mpr c16
                  have c16b1 : (a0 != 5) = true := bne_iff_ne.mpr c16
                  by_cases c18 : a0 = 6
                  · rw [if_pos c18] at H
                    have c18b0 : (a0 == 6) = true := beq_iff_eq.mpr c18
                    have c18b1 : (a0 != 6) = false := bne_eq_false_iff_eq.mpr c18
                    clear c18
                    simp only [Option.some.injEq, Prod.mk.injEq] at H
                    obtain ⟨rfl, rfl, rfl, rfl⟩ := H
                    have hcz19_0 : wc.cell? ⟨gb148, 0, none⟩ = some (.int .i64 0) := (blk_cell BK148.out 0).trans rfl
                    have hcz19_1 : wc.cell? ⟨gb148, 1, none⟩ = some (.int .i64 0) := (blk_cell BK148.out 1).trans rfl
                    have hcz19_2 : wc.cell? ⟨gb148, 2, none⟩ = some (.int .i64 0) := (blk_cell BK148.out 2).trans rfl
                    have hfz19_0 := blk_frozen BK148.out 0
                    have hfz19_1 := blk_frozen BK148.out 1
                    have hfz19_2 := blk_frozen BK148.out 2
                    go_wp2
                    refine bodyPost_ret (results_ct rfl _ _ gb148 89 #[.int .i64 0, .int .i64 0, .int .i64 2] (0, 0) _ rfl (by (with_reducible repeat (first | refine blk_drewN ?_ _ | refine blk_drew ?_ | refine blk_alloc ?_ _)); refine blk_put (cs := #[.int .i64 0, .int .i64 0, .int .i64 0]) ?_ 2 _ rfl; (with_reducible repeat (first | refine blk_drewN ?_ _ | refine blk_drew ?_ | refine blk_alloc ?_ _)); refine blk_put (cs := #[.int .i64 0, .int .i64 0, .int .i64 0]) ?_ 1 _ rfl; (with_reducible repeat (first | refine blk_drewN ?_ _ | refine blk_drew ?_ | refine blk_alloc ?_ _)); refine blk_put (cs := #[.int .i64 0, .int .i64 0, .int .i64 0]) ?_ 0 _ rfl; (with_reducible repeat (first | refine blk_drewN ?_ _ | refine blk_drew ?_ | refine blk_alloc ?_ _)); exact BK148.out) Try.underlying89 rfl (by kernel_rfl)) rfl ?_
                    exact ⟨by first | rfl | (simp [errW_none, errW_some] <;> rfl) | (simp [*, errW_none, errW_some] <;> rfl), by repeat (first | (with_reducible first | exact HB.out | apply below_alloc | apply pw_below_drewN | apply below_drew1 | refine below_set ?_ GE148.out) | exact HB.out)⟩
                  · rw [if_neg c18] at H
                    have c18b0 : (a0 == 6) = false := beq_eq_false_iff_ne.mpr c18
                    have c18b1 : (a0 != 6) = true := bne_iff_ne.mpr c18
                    by_cases c20 : a0 = 9
                    · rw [if_pos c20] at H
                      have c20b0 : (a0 == 9) = true := beq_iff_eq.mpr c20
                      have c20b1 : (a0 != 9) = false := bne_eq_false_iff_eq.mpr c20
                      clear c20
                      simp only [Option.some.injEq, Prod.mk.injEq] at H
                      obtain ⟨rfl, rfl, rfl, rfl⟩ := H
                      have hcz21_0 : wc.cell? ⟨gb148, 0, none⟩ = some (.int .i64 0) := (blk_cell BK148.out 0).trans rfl
                      have hcz21_1 : wc.cell? ⟨gb148, 1, none⟩ = some (.int .i64 0) := (blk_cell BK148.out 1).trans rfl
                      have hcz21_2 : wc.cell? ⟨gb148, 2, none⟩ = some (.int .i64 0) := (blk_cell BK148.out 2).trans rfl
                      have hfz21_0 := blk_frozen BK148.out 0
                      have hfz21_1 := blk_frozen BK148.out 1
                      have hfz21_2 := blk_frozen BK148.out 2
                      go_wp2
                      refine bodyPost_ret (results_ct rfl _ _ gb148 89 #[.int .i64 0, .int .i64 0, .int .i64 2] (0, 0) _ rfl (by (with_reducible repeat (first | refine blk_drewN ?_ _ | refine blk_drew ?_ | refine blk_alloc ?_ _)); refine blk_put (cs := #[.int .i64 0, .int .i64 0, .int .i64 0]) ?_ 2 _ rfl; (with_reducible repeat (first | refine blk_drewN ?_ _ | refine blk_drew ?_ | refine blk_alloc ?_ _)); refine blk_put (cs := #[.int .i64 0, .int .i64 0, .int .i64 0]) ?_ 1 _ rfl; (with_reducible repeat (first | refine blk_drewN ?_ _ | refine blk_drew ?_ | refine blk_alloc ?_ _)); refine blk_put (cs := #[.int .i64 0, .int .i64 0, .int .i64 0]) ?_ 0 _ rfl; (with_reducible repeat (first | refine blk_drewN ?_ _ | refine blk_drew ?_ | refine blk_alloc ?_ _)); exact BK148.out) Try.underlying89 rfl (by kernel_rfl)) rfl ?_
                      exact ⟨by first | rfl | (simp [errW_none, errW_some] <;> rfl) | (simp [*, errW_none, errW_some] <;> rfl), by repeat (first | (with_reducible first | exact HB.out | apply below_alloc | apply pw_below_drewN | apply below_drew1 | refine below_set ?_ GE148.out) | exact HB.out)⟩
                    · rw [if_neg c20] at H
                      have c20b0 : (a0 == 9) = false := beq_eq_false_iff_ne.mpr c20
                      have c20b1 : (a0 != 9) = true := bne_iff_ne.mpr c20
                      by_cases c22 : a0 = 10
                      · rw [if_pos c22] at H
                        have c22b0 : (a0 == 10) = true := beq_iff_eq.mpr c22
                        have c22b1 : (a0 != 10) = false := bne_eq_false_iff_eq.mpr c22
                        clear c22
                        simp only [Option.some.injEq, Prod.mk.injEq] at H
                        obtain ⟨rfl, rfl, rfl, rfl⟩ := H
                        have hcz23_0 : wc.cell? ⟨gb148, 0, none⟩ = some (.int .i64 0) := (blk_cell BK148.out 0).trans rfl
                        have hcz23_1 : wc.cell? ⟨gb148, 1, none⟩ = some (.int .i64 0) := (blk_cell BK148.out 1).trans rfl
                        have hcz23_2 : wc.cell? ⟨gb148, 2, none⟩ = some (.int .i64 0) := (blk_cell BK148.out 2).trans rfl
                        have hfz23_0 := blk_frozen BK148.out 0
                        have hfz23_1 := blk_frozen BK148.out 1
                        have hfz23_2 := blk_frozen BK148.out 2
                        go_wp2
                        refine bodyPost_ret (results_ct rfl _ _ gb148 89 #[.int .i64 0, .int .i64 0, .int .i64 2] (0, 0) _ rfl (by (with_reducible repeat (first | refine blk_drewN ?_ _ | refine blk_drew ?_ | refine blk_alloc ?_ _)); refine blk_put (cs := #[.int .i64 0, .int .i64 0, .int .i64 0]) ?_ 2 _ rfl; (with_reducible repeat (first | refine blk_drewN ?_ _ | refine blk_drew ?_ | refine blk_alloc ?_ _)); refine blk_put (cs := #[.int .i64 0, .int .i64 0, .int .i64 0]) ?_ 1 _ rfl; (with_reducible repeat (first | refine blk_drewN ?_ _ | refine blk_drew ?_ | refine blk_alloc ?_ _)); refine blk_put (cs := #[.int .i64 0, .int .i64 0, .int .i64 0]) ?_ 0 _ rfl; (with_reducible repeat (first | refine blk_drewN ?_ _ | refine blk_drew ?_ | refine blk_alloc ?_ _)); exact BK148.out) Try.underlying89 rfl (by kernel_rfl)) rfl ?_
                        exact ⟨by first | rfl | (simp [errW_none, errW_some] <;> rfl) | (simp [*, errW_none, errW_some] <;> rfl), by repeat (first | (with_reducible first | exact HB.out | apply below_alloc | apply pw_below_drewN | apply below_drew1 | refine below_set ?_ GE148.out) | exact HB.out)⟩
                      · rw [if_neg c22] at H
                        have c22b0 : (a0 == 10) = false := beq_eq_false_iff_ne.mpr c22
                        have c22b1 : (a0 != 10) = true := bne_iff_ne.mpr c22
                        simp only [Option.some.injEq, Prod.mk.injEq] at H
                        obtain ⟨rfl, rfl, rfl, rfl⟩ := H
                        have hcz24_0 : wc.cell? ⟨gb148, 0, none⟩ = some (.int .i64 0) := (blk_cell BK148.out 0).trans rfl
                        have hcz24_1 : wc.cell? ⟨gb148, 1, none⟩ = some (.int .i64 0) := (blk_cell BK148.out 1).trans rfl
                        have hcz24_2 : wc.cell? ⟨gb148, 2, none⟩ = some (.int .i64 0) := (blk_cell BK148.out 2).trans rfl
                        have hfz24_0 := blk_frozen BK148.out 0
                        have hfz24_1 := blk_frozen BK148.out 1
                        have hfz24_2 := blk_frozen BK148.out 2
                        go_wp2
                        refine bodyPost_ret (results_ct rfl _ _ gb148 89 #[.int .i64 0, .int .i64 0, .int .i64 0] (0, 0) _ rfl (by (with_reducible repeat (first | refine blk_drewN ?_ _ | refine blk_drew ?_ | refine blk_alloc ?_ _)); refine blk_put (cs := #[.int .i64 0, .int .i64 0, .int .i64 0]) ?_ 2 _ rfl; (with_reducible repeat (first | refine blk_drewN ?_ _ | refine blk_drew ?_ | refine blk_alloc ?_ _)); refine blk_put (cs := #[.int .i64 0, .int .i64 0, .int .i64 0]) ?_ 1 _ rfl; (with_reducible repeat (first | refine blk_drewN ?_ _ | refine blk_drew ?_ | refine blk_alloc ?_ _)); refine blk_put (cs := #[.int .i64 0, .int .i64 0, .int .i64 0]) ?_ 0 _ rfl; (with_reducible repeat (first | refine blk_drewN ?_ _ | refine blk_drew ?_ | refine blk_alloc ?_ _)); exact BK148.out) Try.underlying89 rfl (by kernel_rfl)) rfl ?_
                        exact ⟨by first | rfl | (simp [errW_none, errW_some] <;> rfl) | (simp [*, errW_none, errW_some] <;> rfl), by repeat (first | (with_reducible first | exact HB.out | apply below_alloc | apply pw_below_drewN | apply below_drew1 | refine below_set ?_ GE148.out) | exact HB.out)⟩
end
section
open Go.Proofs.YtdigjjncoeaiiaaGlib
set_option maxHeartbeats 4000000 in
set_option maxRecDepth 100000 in
theorem formed_zero (w0 : World) (e : S24) (A : Option Addr) (c : Nat) (L : Int) (gl : Nat) (w : World) (hr : Kd.C k24 w0 A e.f2.length e.f2) (hc : e.f2.length ≤ c) (h0 : 0 ≤ L) (h1 : L ≤ 1000) (hb : Below w0.heap.size w0 w) (hgl : w0.heap.size ≤ gl) (hg : cellL gl L w) :
    Calls Try.prog 33 #[.agg #[.int .i64 e.f0, .int .i64 e.f1, .slice A e.f2.length c], .int .i64 0, .pointer (some ⟨gl, 0, none⟩)] w fun r w' => r = .returned (.bool (formedP 0 e L).1) ∧ w.grownBy w' (some gl) ∧ cellL gl (formedP 0 e L).2 w' := by
  have HR := Aside0.mk hr
  have HG := Aside0.mk hg
  have HB := Aside0.mk hb
  have HGL := Aside0.mk hgl
  have hlt : gl < w.heap.size := (Array.getElem?_eq_some_iff.1 hg).1
  have HL := Aside0.mk hlt
  obtain ⟨lo, hi, kids, ok, hs⟩ : ∃ lo hi kids ok, (match shapeP e.f0 with | none => (0, 0, 0, false) | some (lo, hi, kids) => (lo, hi, kids, true) : Int × Int × Int × Bool) = (lo, hi, kids, ok) := ⟨_, _, _, _, rfl⟩
  have SH := Aside0.mk (fun W => value_shapeOf.calls 2 e.f0 lo hi kids ok W ((shape_of e.f0).trans (congrArg some hs)))
  have WI := Aside0.mk (fun W => value_within.calls e.f1 lo hi _ W (within_of e.f1 lo hi))
  have HW := Aside0.mk (wrap64_id (x := L - 1) (by omega) (by omega))
  obtain ⟨b1, hb1⟩ : ∃ b1, decide (L - 1 < 0) = b1 := ⟨_, rfl⟩
  obtain ⟨b2, hb2⟩ : ∃ b2, ((e.f2.length : Int) != kids) = b2 := ⟨_, rfl⟩
  have HF := Aside0.mk (node_of e 0 (L - 1) lo hi kids ok hs)
  generalize inI e.f1 lo hi = b3 at WI HF
  rw [hb2] at HF
  have HF2 := Aside0.mk (HF.out.trans (by rw [show decide (0 ≤ L - 1) = !decide (L - 1 < 0) from by by_cases h : L - 1 < 0 <;> simp [h] <;> omega, hb1]))
  have hwl := HW.out
  clear hr hg hs hb hgl HF
  go_enter Try.func33, Try.ntmps33
  go_wp2_with (first
    | ((with_reducible refine gate_dst (N := 3) rfl ?_); refine box_event ?hg (N := 3) ?hd (cs := #[.int .i64 e.f0, .int .i64 e.f1, .slice A e.f2.length c]) (t := 24) ?hr ?_; (case hd => rfl); (case hg => rfl); (case hr => first | (go_simp; done) | (go_simp; rfl)); intro g1 hg w1 hbox hb
       have HB1 := Aside0.mk hb
       have BK1 := Aside0.mk hbox
       have G1 := Aside0.mk hg
       clear hb hbox hg
       have e10 := (blk_cell BK1.out 0).trans rfl)
    | (go_at_call 61; with_reducible refine (SH.out _).mono ?_; rintro e2 w2 ⟨rfl, hb⟩
       have HB2 := Aside0.mk (below_step HB1.out hb)
       have BK2 := Aside0.mk (blk_below BK1.out hb)
       clear hb e10
       have hlt2 := Nat.lt_of_lt_of_le HL.out HB2.out.size
       have hc2 := cell_of_one (blk_alloc (blk_below HG.out HB2.out) (.cells #[.int .i64 lo, .int .i64 hi, .int .i64 kids] 89))
       have hz2 := free_of_one (blk_alloc (blk_below HG.out HB2.out) (.cells #[.int .i64 lo, .int .i64 hi, .int .i64 kids] 89)))
    | ((with_reducible refine gate_store (t := 3) (p := 21) (v := .tmp 20) rfl ?_); refine store_event ?hg (t := 3) (p := 21) (v := .tmp 20) ?ho ?hN (w1 := (w2.alloc (.cells #[.int .i64 lo, .int .i64 hi, .int .i64 kids] 89)).setCell ⟨gl, 0, none⟩ (.int .i64 (wrap64 (L - 1)))) ?hr ?_; (case hg => rfl); (case ho => rfl); (case hN => rfl); (case hr => first | (go_simp; done) | (go_simp; rfl)); intro w3 hw3
       have GR3 := Aside0.mk (formed_w3 HG.out HB2.out hw3)
       have BK3 := Aside0.mk (grown_blk (formed_w3' hw3) (blk_alloc BK2.out _) (by have h1 := G1.out; have h2 := HL.out; omega))
       have SK3 := Aside0.mk (grown_blk (formed_w3' hw3) (blk_new w2 _) (by omega))
       have CL3 := Aside0.mk (formed_c3 HG.out HB2.out HW.out hw3)
       clear hw3 hc2 hz2 hlt2
       have hcl := cell_of_one CL3.out
       have e30 := (blk_cell BK3.out 0).trans rfl
       have e31 := (blk_cell BK3.out 1).trans rfl
       have e32 := (blk_cell BK3.out 2).trans rfl
       have s30 := (blk_cell SK3.out 0).trans rfl
       have s31 := (blk_cell SK3.out 1).trans rfl
       have s32 := (blk_cell SK3.out 2).trans rfl)
    | (go_at_call 28; with_reducible refine (WI.out _).mono ?_; rintro e2 w4 ⟨rfl, hd⟩
       have hb := Drawn0.below hd
       clear hd
       have GR4 := Aside0.mk (grown_trans GR3.out (grown_below hb))
       have CL4 := Aside0.mk (show cellL gl (L - 1) w4 from blk_below CL3.out hb)
       have BK4 := Aside0.mk (blk_below BK3.out hb)
       clear hb
       have e40 := (blk_cell BK4.out 2).trans rfl))
  all_goals (go_ret; exact ⟨rfl, GR3.out, CL3.out⟩)
set_option maxHeartbeats 4000000 in
set_option maxRecDepth 100000 in
theorem formed_succ (n : Nat) (hn : n ≤ 1000) (w0 : World) (e : S24) (A : Option Addr) (c : Nat) (L : Int) (gl : Nat) (w : World) (hr : Kd.C k24 w0 A e.f2.length e.f2) (hc : e.f2.length ≤ c) (h0 : 0 ≤ L) (h1 : L ≤ 1000) (hb : Below w0.heap.size w0 w) (hgl : w0.heap.size ≤ gl) (hg : cellL gl L w)
    (ih : ∀ (e : S24) (A : Option Addr) (c : Nat) (L : Int) (w : World), Kd.C k24 w0 A e.f2.length e.f2 → e.f2.length ≤ c → 0 ≤ L → L ≤ 1000 → Below w0.heap.size w0 w → cellL gl L w →
      Calls Try.prog 33 #[.agg #[.int .i64 e.f0, .int .i64 e.f1, .slice A e.f2.length c], .int .i64 (n : Int), .pointer (some ⟨gl, 0, none⟩)] w fun r w' => r = .returned (.bool (formedP n e L).1) ∧ w.grownBy w' (some gl) ∧ cellL gl (formedP n e L).2 w') :
    Calls Try.prog 33 #[.agg #[.int .i64 e.f0, .int .i64 e.f1, .slice A e.f2.length c], .int .i64 ((n : Int) + 1), .pointer (some ⟨gl, 0, none⟩)] w fun r w' => r = .returned (.bool (formedP (n + 1) e L).1) ∧ w.grownBy w' (some gl) ∧ cellL gl (formedP (n + 1) e L).2 w' := by
  have IH := Aside0.mk ih
  clear ih
  have hn0 : (((n : Int) + 1) == 0) = false := by rw [beq_eq_false_iff_ne]; omega
  have hwn : wrap64 (n : Int) = n := wrap64_id (by omega) (by omega)
  have hwn2 : wrap64 ((n : Int) + 1 - 1) = n := by rw [show (n : Int) + 1 - 1 = n from by omega]; exact hwn
  have HR := Aside0.mk hr
  have HG := Aside0.mk hg
  have HB := Aside0.mk hb
  have HGL := Aside0.mk hgl
  have hlt : gl < w.heap.size := (Array.getElem?_eq_some_iff.1 hg).1
  have HL := Aside0.mk hlt
  obtain ⟨lo, hi, kids, ok, hs⟩ : ∃ lo hi kids ok, (match shapeP e.f0 with | none => (0, 0, 0, false) | some (lo, hi, kids) => (lo, hi, kids, true) : Int × Int × Int × Bool) = (lo, hi, kids, ok) := ⟨_, _, _, _, rfl⟩
  have SH := Aside0.mk (fun W => value_shapeOf.calls 2 e.f0 lo hi kids ok W ((shape_of e.f0).trans (congrArg some hs)))
  have WI := Aside0.mk (fun W => value_within.calls e.f1 lo hi _ W (within_of e.f1 lo hi))
  have HW := Aside0.mk (wrap64_id (x := L - 1) (by omega) (by omega))
  obtain ⟨b1, hb1⟩ : ∃ b1, decide (L - 1 < 0) = b1 := ⟨_, rfl⟩
  obtain ⟨b2, hb2⟩ : ∃ b2, ((e.f2.length : Int) != kids) = b2 := ⟨_, rfl⟩
  have HF := Aside0.mk (node_of e (n + 1) (L - 1) lo hi kids ok hs)
  generalize inI e.f1 lo hi = b3 at WI HF
  rw [hb2] at HF
  have HF2 := Aside0.mk (HF.out.trans (by rw [show decide (0 ≤ L - 1) = !decide (L - 1 < 0) from by by_cases h : L - 1 < 0 <;> simp [h] <;> omega, hb1]))
  have hwl := HW.out
  clear hr hg hs hb hgl HF
  go_enter Try.func33, Try.ntmps33
  go_wp2_with (first
    | ((with_reducible refine gate_dst (N := 3) rfl ?_); refine box_event ?hg (N := 3) ?hd (cs := #[.int .i64 e.f0, .int .i64 e.f1, .slice A e.f2.length c]) (t := 24) ?hr ?_; (case hd => rfl); (case hg => rfl); (case hr => first | (go_simp; done) | (go_simp; rfl)); intro g1 hg w1 hbox hb
       have HB1 := Aside0.mk hb
       have BK1 := Aside0.mk hbox
       have G1 := Aside0.mk hg
       clear hb hbox hg
       have e10 := (blk_cell BK1.out 0).trans rfl)
    | (go_at_call 61; with_reducible refine (SH.out _).mono ?_; rintro e2 w2 ⟨rfl, hb⟩
       have HB2 := Aside0.mk (below_step HB1.out hb)
       have BK2 := Aside0.mk (blk_below BK1.out hb)
       clear hb e10
       have hlt2 := Nat.lt_of_lt_of_le HL.out HB2.out.size
       have hc2 := cell_of_one (blk_alloc (blk_below HG.out HB2.out) (.cells #[.int .i64 lo, .int .i64 hi, .int .i64 kids] 89))
       have hz2 := free_of_one (blk_alloc (blk_below HG.out HB2.out) (.cells #[.int .i64 lo, .int .i64 hi, .int .i64 kids] 89)))
    | ((with_reducible refine gate_store (t := 3) (p := 21) (v := .tmp 20) rfl ?_); refine store_event ?hg (t := 3) (p := 21) (v := .tmp 20) ?ho ?hN (w1 := (w2.alloc (.cells #[.int .i64 lo, .int .i64 hi, .int .i64 kids] 89)).setCell ⟨gl, 0, none⟩ (.int .i64 (wrap64 (L - 1)))) ?hr ?_; (case hg => rfl); (case ho => rfl); (case hN => rfl); (case hr => first | (go_simp; done) | (go_simp; rfl)); intro w3 hw3
       have GR3 := Aside0.mk (formed_w3 HG.out HB2.out hw3)
       have BK3 := Aside0.mk (grown_blk (formed_w3' hw3) (blk_alloc BK2.out _) (by have h1 := G1.out; have h2 := HL.out; omega))
       have SK3 := Aside0.mk (grown_blk (formed_w3' hw3) (blk_new w2 _) (by omega))
       have CL3 := Aside0.mk (formed_c3 HG.out HB2.out HW.out hw3)
       clear hw3 hc2 hz2 hlt2
       have hcl := cell_of_one CL3.out
       have e30 := (blk_cell BK3.out 0).trans rfl
       have e31 := (blk_cell BK3.out 1).trans rfl
       have e32 := (blk_cell BK3.out 2).trans rfl
       have s30 := (blk_cell SK3.out 0).trans rfl
       have s31 := (blk_cell SK3.out 1).trans rfl
       have s32 := (blk_cell SK3.out 2).trans rfl)
    | (go_at_call 28; with_reducible refine (WI.out _).mono ?_; rintro e2 w4 ⟨rfl, hd⟩
       have hb := Drawn0.below hd
       clear hd
       have GR4 := Aside0.mk (grown_trans GR3.out (grown_below hb))
       have CL4 := Aside0.mk (show cellL gl (L - 1) w4 from blk_below CL3.out hb)
       have BK4 := Aside0.mk (blk_below BK3.out hb)
       clear hb
       have e40 := (blk_cell BK4.out 2).trans rfl))
  all_goals try (have hq : nodeOk e (n + 1) (L - 1) = false := (by rw [HF2.out]; first | (simp [*]; done) | (rename_i hx; rw [Bool.not_eq_true'] at hx; simp [*]; done)); have hp : formedP (n + 1) e L = (false, L - 1) := (by unfold formedP; rw [hq]; simp); go_ret; exact ⟨by rw [hp]; rfl, by first | exact GR4.out | exact GR3.out, by rw [hp]; first | exact CL4.out | exact CL3.out⟩)
  have hq : nodeOk e (n + 1) (L - 1) = true := by rw [HF2.out]; (have hx : (!b3) = false := by assumption); rw [Bool.not_eq_false'] at hx; simp [*]
  have hx3 : b3 = true := by have hx : (!b3) = false := by assumption
                             simpa using hx
  subst hx3
  have HP := Aside0.mk (show formedP (n + 1) e L = kidsF (formedP n) e.f2 (L - 1) by unfold formedP; rw [if_pos hq])
  have HL0 := Aside0.mk (show 0 ≤ L - 1 by have h_ := hq; unfold nodeOk at h_; split at h_ <;> simp at h_; omega)
  clear hq hb1 hb2 hcl e30 e31 e32 s30 s31 s32 e40
  go_loopw [55] (fun i wr => ∃ (m : Nat) (Lm : Int), m ≤ e.f2.length ∧ i = .int .i64 m ∧ Aside0 (kidsF (formedP n) e.f2 (L - 1) = kidsF (formedP n) (e.f2.drop m) Lm) ∧ Aside0 (0 ≤ Lm) ∧ Aside0 (Lm ≤ 1000) ∧ Aside0 (w.grownBy wr (some gl)) ∧ Aside0 (cellL gl Lm wr)) (fun i _ => e.f2.length - (intOf i).toNat)
  case atStart => exact ⟨0, L - 1, Nat.zero_le _, rfl, ⟨by rw [List.drop_zero]⟩, HL0, ⟨by omega⟩, GR4, CL4⟩
  case round =>
    obtain ⟨m, Lm, hm, rfl, HE, HM0, HM1, GRm, CLm⟩ := hrel
    clear HL0 GR4 CL4 GR3 CL3 BK3 BK4 SK3
    by_cases hlt2 : m < e.f2.length
    · have d0 : decide ((m : Int) < (e.f2.length : Int)) = true := decide_eq_true (by omega)
      have d1 : decide (m < e.f2.length) = true := decide_eq_true hlt2
      have q0 : (0 : Int) ≤ (m : Int) := by omega
      have hdr : e.f2.drop m = e.f2[m] :: e.f2.drop (m + 1) := List.drop_eq_getElem_cons hlt2
      have hrd : rd_T24 e.f2 (m : Int) = e.f2[m] := by
        unfold rd_T24
        rw [Int.toNat_natCast, List.getD_eq_getElem?_getD, List.getElem?_eq_getElem hlt2]
        rfl
      obtain ⟨ad, A2, c2, ea, x0, x1, x2, hc2, hC2⟩ := at_T24 HR.out (m : Int) (by omega) (by omega)
      subst ea
      rw [hrd] at x0 x1 x2 hc2 hC2
      rw [Int.toNat_natCast] at x0 x1 x2
      have HBm := Aside0.mk (below_grown HB.out HGL.out GRm.out)
      replace x0 := (HBm.out.cell (World.block_lt_of_cell? w0 _ x0)).trans x0
      replace x1 := (HBm.out.cell (World.block_lt_of_cell? w0 _ x1)).trans x1
      replace x2 := (HBm.out.cell (World.block_lt_of_cell? w0 _ x2)).trans x2
      rw [hdr] at HE
      simp only [kidsF] at HE
      have HD := Aside0.mk hdr
      clear hdr hrd
      generalize e.f2[m] = z at *
      have HC2 := Aside0.mk hC2
      have HL2 := Aside0.mk hc2
      clear hC2 hc2
      obtain ⟨fb, fL, hfp⟩ : ∃ fb fL, formedP n z Lm = (fb, fL) := ⟨_, _, rfl⟩
      have HFB := Aside0.mk (formed_bounds n z Lm fb fL HM0.out hfp)
      have CA := Aside0.mk (fun W h1 h2 => IH.out z A2 c2 Lm W HC2.out HL2.out HM0.out HM1.out h1 h2)
      rw [hfp] at CA HE
      clear hfp
      cases fb with
      | false =>
        have HX : Aside0 (formedP (n + 1) e L = (false, fL)) := ⟨HP.out.trans (HE.out.trans (by simp))⟩
        clear HE HP
        go_wp2_with (go_at_call 33; go_loud (with_reducible refine (CA.out _ ?b1 ?b2).mono ?_; (case b1 => exact below_alloc HBm.out _); (case b2 => exact cellL_alloc CLm.out _); rintro e2 w5 ⟨rfl, hg5, hc5⟩))
        go_ret
        exact ⟨by rw [HX.out]; rfl, grown_trans (grown_trans GRm.out (grown_below (below_alloc (Below.refl _ _) _))) hg5, by rw [HX.out]; exact hc5⟩
      | true =>
        have HX : Aside0 (kidsF (formedP n) e.f2 (L - 1) = kidsF (formedP n) (e.f2.drop (m + 1)) fL) := ⟨HE.out.trans (by simp)⟩
        clear HE
        go_wp2_with (go_at_call 33; go_loud (with_reducible refine (CA.out _ ?b1 ?b2).mono ?_; (case b1 => exact below_alloc HBm.out _); (case b2 => exact cellL_alloc CLm.out _); rintro e2 w5 ⟨rfl, hg5, hc5⟩))
        go_roundw
        case rel => exact ⟨_, _, _, _, _, _, _, _, _, _, _, _, _, ⟨m + 1, fL, hlt2, (congrArg (Value.int .i64) (wrap_next (n := m) (Nat.lt_of_lt_of_le hlt2 HR.out.2.1))), HX, ⟨HFB.out.2 (by trivial)⟩, ⟨le_step HFB.out.1 HM1.out⟩, ⟨grown_trans (grown_trans GRm.out (grown_below (below_alloc (Below.refl _ _) _))) hg5⟩, ⟨hc5⟩⟩, rfl⟩
        case measure => exact meas_next hlt2 HR.out.2.1
    · have d0 : decide ((m : Int) < (e.f2.length : Int)) = false := decide_eq_false (by omega)
      have d1 : decide (m < e.f2.length) = false := decide_eq_false hlt2
      rw [List.drop_eq_nil_of_le (by omega)] at HE
      have HX := Aside0.mk (HP.out.trans HE.out)
      clear HE HP
      go_wp2
      go_ret
      exact ⟨by rw [HX.out]; rfl, GRm.out, by rw [HX.out]; exact CLm.out⟩
theorem formed_calls (w0 : World) (gl : Nat) (hgl : w0.heap.size ≤ gl) : ∀ (n : Nat), n ≤ 1000 → ∀ (e : S24) (A : Option Addr) (c : Nat) (L : Int) (w : World), Kd.C k24 w0 A e.f2.length e.f2 → e.f2.length ≤ c → 0 ≤ L → L ≤ 1000 → Below w0.heap.size w0 w → cellL gl L w →
    Calls Try.prog 33 #[.agg #[.int .i64 e.f0, .int .i64 e.f1, .slice A e.f2.length c], .int .i64 (n : Int), .pointer (some ⟨gl, 0, none⟩)] w fun r w' => r = .returned (.bool (formedP n e L).1) ∧ w.grownBy w' (some gl) ∧ cellL gl (formedP n e L).2 w' := by
  intro n
  induction n with
  | zero =>
    intro _ e A c L w hr hc h0 h1 hb hg
    exact formed_zero w0 e A c L gl w hr hc h0 h1 hb hgl hg
  | succ n ih =>
    intro hn e A c L w hr hc h0 h1 hb hg
    exact formed_succ n (by omega) w0 e A c L gl w hr hc h0 h1 hb hgl hg (fun e A c L w hr hc h0 h1 hb hg => ih (by omega) e A c L w hr hc h0 h1 hb hg)
end
section
set_option maxHeartbeats 4000000 in
set_option maxRecDepth 100000 in
theorem valid_calls (e : S24) (A : Option Addr) (c : Nat) (w : World) (hr : Kd.C k24 w A e.f2.length e.f2) (hc : e.f2.length ≤ c) :
    Calls Try.prog 13 #[.agg #[.int .i64 e.f0, .int .i64 e.f1, .slice A e.f2.length c]] w fun r w' => r = .returned (.bool (validE e)) ∧ Below w.heap.size w w' := by
  have FC := Aside0.mk (fun W hb hg => formed_calls w (w.heap.size + 1) (Nat.le_succ _) 30 (by omega) e A c 100 W hr hc (by omega) (by omega) hb hg)
  clear hr hc
  go_enter Try.func13, Try.ntmps13
  go_wp2_with (go_at_call 33; go_loud (refine (FC.out _ ?b1 ?b2).mono ?_; (case b1 => exact below_alloc (below_alloc (Below.refl _ _) _) _); (case b2 => unfold cellL; exact (by simpa using blk_new (w.alloc (.cells #[.int .i64 e.f0, .int .i64 e.f1, .slice A e.f2.length c] 24)) (.cells #[.int .i64 100] 3))); rintro r w1 ⟨rfl, hg, hl⟩))
  go_ret
  exact ⟨rfl, below_grown (below_alloc (below_alloc (Below.refl _ _) _) _) (Nat.le_succ _) hg⟩
end
section
open Go.Proofs.YtdigjjncoeaiiaaGlib
set_option maxHeartbeats 4000000 in
set_option maxRecDepth 100000 in
theorem indexI_calls (k : FuncId) (cap : Array Value) (hk : EntersK k) (p : Int → Bool) (Inv : World → Prop) (hInv : ∀ W W', Inv W → Below W.heap.size W W' → Inv W')
    (hp : ∀ (z : Int) (W : World), Inv W → Calls Try.prog k (#[.int .i64 z] ++ cap) W fun e w' => e = .returned (.bool (p z)) ∧ Below W.heap.size W w')
    (A : Option Addr) (c : Nat) (l : List Int) (w : World) (hr : Kd.C (Kd.int .i64) w A l.length l) (hc : l.length ≤ c) (hi : Inv w) :
    Calls Try.prog 76 #[.slice A l.length c, .func (.func k) #[] cap] w fun e w' => e = .returned (.int .i64 (idxP p l 0)) ∧ Below w.heap.size w w' := by
  have HR := Aside0.mk hr
  have HI := Aside0.mk hi
  have HV := Aside0.mk hInv
  have HP := Aside0.mk hp
  have HL := Aside0.mk hr.2.1
  clear hr hi hInv hp
  have hlm : (l.length : Int) ≤ 9223372036854775807 := by have := HL.out; omega
  unfold EntersK at hk
  go_enter Try.func76, Try.ntmps76
  go_wp2
  go_loopw [5, 8] (fun v i wr => ∃ n : Nat, n ≤ l.length ∧ i = .int .i64 n ∧ idxP p l 0 = idxP p (l.drop n) n ∧ Aside0 (Below w.heap.size w wr) ∧ Aside0 (Inv wr)) (fun _ i _ => l.length - (intOf i).toNat)
  case atStart => exact ⟨0, Nat.zero_le _, rfl, by rw [List.drop_zero], ⟨Below.refl _ _⟩, HI⟩
  case round =>
    obtain ⟨n, hn, rfl, he, HB, HJ⟩ := hrel
    by_cases hlt : n < l.length
    · have hd : l.drop n = l[n] :: l.drop (n + 1) := List.drop_eq_getElem_cons hlt
      have hz : rd l (n : Int) = l[n] := by
        unfold rd
        rw [Int.toNat_natCast, List.getD_eq_getElem?_getD, List.getElem?_eq_getElem hlt]
        rfl
      obtain ⟨ad, e, x0⟩ := Kd.at_int HR.out (n : Int) (by omega) (by omega)
      subst e
      rw [hz, Int.toNat_natCast] at x0
      replace x0 := (HB.out.cell (World.block_lt_of_cell? w _ x0)).trans x0
      rw [hd] at he
      simp only [idxP] at he
      have HE := Aside0.mk he
      have d0 : decide ((n : Int) < (l.length : Int)) = true := decide_eq_true (by omega)
      have d1 : decide (n < l.length) = true := decide_eq_true hlt
      clear he hd hz
      have q0 : (0 : Int) ≤ (n : Int) := by omega
      generalize l[n] = z at *
      go_wp2
      refine (HP.out z _ (HV.out _ _ HJ.out ?b1)).mono ?_
      case b1 => exact Below.refl _ _
      rintro e w2 ⟨rfl, hb⟩
      have HB2 := Aside0.mk (below_step HB.out hb)
      have HJ2 := Aside0.mk (HV.out _ _ HJ.out hb)
      clear hb
      cases hpz : p z with
      | true =>
        rw [hpz, if_pos rfl] at HE
        go_wp2
        go_ret
        exact ⟨by rw [HE.out]; rfl, HB2.out⟩
      | false =>
        rw [hpz, if_neg (by simp)] at HE
        go_wp2
        go_roundw
        case rel => exact ⟨n + 1, by omega, by go_num, HE.out, HB2, HJ2⟩
        case measure => simp [intOf]; omega
    · have d0 : decide ((n : Int) < (l.length : Int)) = false := decide_eq_false (by omega)
      have d1 : decide (n < l.length) = false := decide_eq_false hlt
      rw [List.drop_eq_nil_of_le (by omega)] at he
      have HE := Aside0.mk he
      clear he
      go_wp2
      go_ret
      exact ⟨by rw [HE.out]; rfl, HB.out⟩
end
section
set_option maxHeartbeats 4000000 in
theorem containsI_calls (k : FuncId) (cap : Array Value) (hk : EntersK k) (p : Int → Bool) (Inv : World → Prop) (hInv : ∀ W W', Inv W → Below W.heap.size W W' → Inv W')
    (hp : ∀ (z : Int) (W : World), Inv W → Calls Try.prog k (#[.int .i64 z] ++ cap) W fun e w' => e = .returned (.bool (p z)) ∧ Below W.heap.size W w')
    (A : Option Addr) (c : Nat) (l : List Int) (w : World) (hr : Kd.C (Kd.int .i64) w A l.length l) (hc : l.length ≤ c) (hi : Inv w) :
    Calls Try.prog 45 #[.slice A l.length c, .func (.func k) #[] cap] w fun e w' => e = .returned (.bool (l.any p)) ∧ Below w.heap.size w w' := by
  have HX := Aside0.mk (fun W h hi => indexI_calls k cap hk p Inv hInv hp A c l W h hc hi)
  have HR := Aside0.mk hr
  have HI := Aside0.mk hi
  have e : decide (idxP p l 0 ≥ 0) = l.any p := by rw [Bool.eq_iff_iff, ← idxP_any p l 0, decide_eq_true_eq]
  generalize l.any p = b at *
  clear hr hi hInv hp
  go_enter Try.func45, Try.ntmps45
  go_wp2_with (go_at_call 76; refine (HX.out _ HR.out HI.out).mono ?_; rintro e w2 ⟨rfl, hb⟩)
  go_ret
  exact ⟨by first | rfl | (rw [e]; rfl), hb⟩
end
section
set_option maxHeartbeats 4000000 in
set_option maxRecDepth 100000 in
theorem right_calls (width scale x0 x1 x2 x3 x4 x5 x6 x7 : Int) (w : World) :
    Calls Try.prog 27 #[.agg #[.int .i64 width, .int .i64 scale, .int .i64 x0, .int .i64 x1, .int .i64 x2, .int .i64 x3, .int .i64 x4, .int .i64 x5, .int .i64 x6, .int .i64 x7]] w fun e w' => e = .returned (.bool (inI scale 50 300 && [x0, x1, x2, x3, x4, x5, x6, x7].all coordB)) ∧ Below w.heap.size w w' := by
  have CV := Aside0.mk (C_vars (blk_new w (.cells #[.int .i64 width, .int .i64 scale, .int .i64 x0, .int .i64 x1, .int .i64 x2, .int .i64 x3, .int .i64 x4, .int .i64 x5, .int .i64 x6, .int .i64 x7] 59)))
  have HB := Aside0.mk (below_alloc (Below.refl w.heap.size w) (.cells #[.int .i64 width, .int .i64 scale, .int .i64 x0, .int .i64 x1, .int .i64 x2, .int .i64 x3, .int .i64 x4, .int .i64 x5, .int .i64 x6, .int .i64 x7] 59))
  have WI := Aside0.mk (fun W => value_within.calls scale 50 300 _ W (within_of scale 50 300))
  have CF := Aside0.mk (fun A W h => containsI_calls 44 #[] enters44 (fun x => !coordB x) (fun _ => True) (fun _ _ _ _ => trivial) (fun x W _ => (value_about_right_1.calls x _ W (wrong_of x)).mono fun e w' h => ⟨h.1, Drawn0.below h.2⟩) A 8 [x0, x1, x2, x3, x4, x5, x6, x7] W h (Nat.le_refl _) trivial)
  rw [any_not] at CF
  generalize [x0, x1, x2, x3, x4, x5, x6, x7].all coordB = b at *
  generalize inI scale 50 300 = b2 at *
  cases b2 with
  | false =>
    go_enter Try.func27, Try.ntmps27
    go_wp2_with (go_at_call 28; with_reducible refine (WI.out _).mono ?_; rintro r2 w6 ⟨rfl, ⟨nd, rfl⟩⟩)
    go_ret
    exact ⟨rfl, pw_below_drewN HB.out _⟩
  | true =>
    go_enter Try.func27, Try.ntmps27
    go_wp2_with (first
      | (go_at_call 28; with_reducible refine (WI.out _).mono ?_; rintro r2 w6 ⟨rfl, hd⟩; have hb := Drawn0.below hd; clear hd; have HB6 := Aside0.mk (below_step HB.out hb); have CV6 := Aside0.mk (Kd.C_below CV.out hb); clear hb)
      | (go_at_call 45; refine (CF.out _ _ CV6.out).mono ?_; rintro r2 w7 ⟨rfl, hb⟩))
    go_ret
    exact ⟨rfl, below_step HB6.out hb⟩
end
section
set_option maxHeartbeats 4000000 in
set_option maxRecDepth 100000 in
theorem variable_calls (a0 a1 x0 x1 x2 x3 x4 x5 x6 x7 n : Int) (m : Nat) (A : Option Addr) (l c : Nat) (w : World) (hm : m < 8) (hn : wrap64 (n - 1) = (m : Int)) :
    Calls Try.prog 51 #[.agg #[.int .i64 a0, .int .i64 a1, .int .i64 x0, .int .i64 x1, .int .i64 x2, .int .i64 x3, .int .i64 x4, .int .i64 x5, .int .i64 x6, .int .i64 x7], .int .i64 n, .slice A l c] w fun e w' => e = .returned (.int .i64 ([x0, x1, x2, x3, x4, x5, x6, x7].getD m 0)) ∧ Below w.heap.size w w' := by
  have HC := Aside0.mk (cells10 (n := m) (blk_new w (.cells #[.int .i64 a0, .int .i64 a1, .int .i64 x0, .int .i64 x1, .int .i64 x2, .int .i64 x3, .int .i64 x4, .int .i64 x5, .int .i64 x6, .int .i64 x7] 59)) hm rfl)
  generalize [x0, x1, x2, x3, x4, x5, x6, x7].getD m 0 = r at *
  have hc := HC.out
  have q0 : (0 : Int) ≤ (m : Int) := by omega
  have q1 : (m : Int) < 8 := by omega
  go_enter Try.func51, Try.ntmps51
  go_wp2
  go_ret
  exact ⟨rfl, below_alloc (Below.refl _ _) _⟩
end
end Go.Proofs.Ytdigjjncoeaiiaa.PAll
