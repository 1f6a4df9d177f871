/- Printed by a program of this session (wip/gprint.py) over the translation, cut to what is named (wip/dcut.py). Not trusted: Lean checks it. -/
import Derived.Test.YtdigjjncoeaiiaaPAlld0
import Derived.Test.YtdigjjncoeaiiaaPAllw33
namespace Go.Proofs.Ytdigjjncoeaiiaa.PAll
open Go.RowKit Go.Proofs.YtdigjjncoeaiiaaW.PrintWords Go.Proofs.YtdigjjncoeaiiaaW.PrintLast Go.Proofs.YtdigjjncoeaiiaaW.PrintMore
attribute [local go_sem] max2_int min2_int max_two min_two max_three min_three max_four min_four -- for this text's walks alone
set_option linter.unusedVariables false
set_option linter.unusedSimpArgs false
set_option maxHeartbeats 8000000 in
set_option maxRecDepth 100000 in
theorem formeref14_compute.calls (a0_0 : Int) (a0_1 : Int) (A0_2 : Option Addr) (c0_2 : Nat) (l0_2 : List (S24)) (A1 : Option Addr) (c1 : Nat) (l1 : List Int) (a2 : Int) (a3 : Int) (a4_0 : Int) (a4_1 : Int) (a4_2 : Int) (a4_3 : Int) (a4_4 : Int) (a4_5 : Int) (a4_6 : Int) (a4_7 : Int) (r : Int) (w : World) (hr0_2 : Kd.C k24 w A0_2 l0_2.length l0_2) (hc0_2 : l0_2.length ≤ c0_2) (hr1 : Kd.C (Kd.int .i64) w A1 l1.length l1) (hc1 : l1.length ≤ c1) (h : formeref14_compute.f a0_0 a0_1 l0_2 l1 a2 a3 a4_0 a4_1 a4_2 a4_3 a4_4 a4_5 a4_6 a4_7 = some r) :
  Calls Try.prog 60 #[.agg #[.int .i64 a0_0, .int .i64 a0_1, .slice A0_2 l0_2.length c0_2], .slice A1 l1.length c1, .int .i64 a2, .int .i64 a3, .agg #[.int .i64 a4_0, .int .i64 a4_1, .int .i64 a4_2, .int .i64 a4_3, .int .i64 a4_4, .int .i64 a4_5, .int .i64 a4_6, .int .i64 a4_7]] w fun e w' => e = .returned (.int .i64 r) ∧ Below w.heap.size w w' := by
 have hu24 := Try.underlying24
 have hu25 := Try.underlying25
 have HR0_2 := Aside0.mk hr0_2
 have HC0_2 := Aside0.mk hc0_2
 clear hr0_2 hc0_2
 have HR1 := Aside0.mk hr1
 have HC1 := Aside0.mk hc1
 clear hr1 hc1
 have HB := Aside0.mk (Below.refl w.heap.size w)
 have H : (if a0_0 = 1 then (some a0_1) else (if a0_0 = 2 then ((formeref01_Floor.f (wrap64 (a0_1 * a2)) 100).bind fun t266 => (some t266)) else (if a0_0 = 3 then ((formeref01_Floor.f (wrap64 (a0_1 * a3)) 100).bind fun t267 => (some t267)) else (if a0_0 = 4 then (if 1 ≤ a0_1 then (if a0_1 ≤ 8 then (some ([a4_0, a4_1, a4_2, a4_3, a4_4, a4_5, a4_6, a4_7].getD (a0_1 - 1).toNat 0)) else (none)) else (none)) else (if a0_0 = 7 then (if 0 < (l1.length : Int) then (some (wrap64 (a0_1 * (rd l1 0)))) else (none)) else (if a0_0 = 8 then (if 0 < (l1.length : Int) then ((formeref01_Floor.f (rd l1 0) a0_1).bind fun t270 => (some t270)) else (none)) else (if a0_0 = 5 then (if 0 < (l1.length : Int) then (if 1 < (l1.length : Int) then (some (wrap64 ((rd l1 0) + (rd l1 1)))) else (none)) else (none)) else (if a0_0 = 6 then (if 0 < (l1.length : Int) then (if 1 < (l1.length : Int) then (some (wrap64 ((rd l1 0) - (rd l1 1)))) else (none)) else (none)) else (if a0_0 = 9 then (if 0 < (l1.length : Int) then (if 1 < (l1.length : Int) then (some (mn (rd l1 0) (rd l1 1))) else (none)) else (none)) else (if 0 < (l1.length : Int) then (if 1 < (l1.length : Int) then (some (mx (rd l1 0) (rd l1 1))) else (none)) else (none))))))))))) = some r := h
 clear h
 by_cases c6 : a0_0 = 1
 · rw [if_pos c6] at H
   have c6b0 : (a0_0 == 1) = true := beq_iff_eq.mpr c6
   have c6b1 : (a0_0 != 1) = false := bne_eq_false_iff_eq.mpr c6
   clear c6
   obtain rfl := Option.some.inj H
   go_enter Try.func60, Try.ntmps60
   go_wp2_with (first | ((with_reducible refine gate_dst (N := 5) rfl ?_); refine box_event ?hg (N := 5) ?hd (cs := #[.int .i64 a0_0, .int .i64 a0_1, .slice A0_2 l0_2.length c0_2]) (t := 24) ?hr ?_; (case hd => rfl); (case hg => rfl); (case hr => (go_simp; done)); intro gb264 hg w7 hbox hb; have BK264 := Aside0.mk (hbox); have GW264 := Aside0.mk ((by rw [hg]; exact (below_size HB.out) : w.heap.size ≤ gb264)); have GE264 := Aside0.mk ((by rw [hg]; exact (below_size HB.out) : w.heap.size ≤ gb264)); replace HB := Aside0.mk (below_step HB.out hb); clear hb hbox hg) | ((with_reducible refine gate_dst (N := 9) rfl ?_); refine box_event ?hg (N := 9) ?hd (cs := #[.int .i64 a4_0, .int .i64 a4_1, .int .i64 a4_2, .int .i64 a4_3, .int .i64 a4_4, .int .i64 a4_5, .int .i64 a4_6, .int .i64 a4_7]) (t := 25) ?hr ?_; (case hd => rfl); (case hg => rfl); (case hr => (go_simp; done)); intro gb265 hg w8 hbox hb; have BK265 := Aside0.mk (hbox); have GW265 := Aside0.mk ((by rw [hg]; exact (below_size HB.out) : w.heap.size ≤ gb265)); have GE265 := Aside0.mk ((by rw [hg]; exact (below_size HB.out) : w.heap.size ≤ gb265)); replace HB := Aside0.mk (below_step HB.out hb); have NB264_265 := Aside0.mk ((by rw [hg]; exact Nat.ne_of_lt (blk_lt BK264.out) : gb264 ≠ gb265)); have NB265_264 := Aside0.mk ((by rw [hg]; exact Nat.ne_of_gt (blk_lt BK264.out) : gb265 ≠ gb264)); replace BK264 := Aside0.mk (blk_below BK264.out hb); clear hb hbox hg; have hnb9 := NB264_265.out; have hnc9 := NB265_264.out; have hcz10_0 : w8.cell? ⟨gb264, 0, none⟩ = some (.int .i64 a0_0) := (blk_cell BK264.out 0).trans rfl; have hcz10_1 : w8.cell? ⟨gb264, 1, none⟩ = some (.int .i64 a0_1) := (blk_cell BK264.out 1).trans rfl; have hcz10_2 : w8.cell? ⟨gb264, 2, none⟩ = some (.slice A0_2 l0_2.length c0_2) := (blk_cell BK264.out 2).trans rfl; have hfz10_0 := blk_frozen BK264.out 0; have hfz10_1 := blk_frozen BK264.out 1; have hfz10_2 := blk_frozen BK264.out 2))
   repeat (go_quiet (fail); try go_wp2_with (fail))
   go_ret
   exact ⟨by rfl, by repeat ((with_reducible exact HB.out))⟩
 · rw [if_neg c6] at H
   have c6b0 : (a0_0 == 1) = false := beq_eq_false_iff_ne.mpr c6
   have c6b1 : (a0_0 != 1) = true := bne_iff_ne.mpr c6
   by_cases c11 : a0_0 = 2
   · rw [if_pos c11] at H
     have c11b0 : (a0_0 == 2) = true := beq_iff_eq.mpr c11
     have c11b1 : (a0_0 != 2) = false := bne_eq_false_iff_eq.mpr c11
     clear c11
     replace H := Option.bind_eq_some_iff.mp H
     obtain ⟨t266, A120, H⟩ := H
     replace H : (some t266) = some r := H
     have A12 := Aside0.mk A120
     clear A120
     obtain rfl := Option.some.inj H
     go_enter Try.func60, Try.ntmps60
     go_wp2_with (first | ((with_reducible refine gate_dst (N := 5) rfl ?_); refine box_event ?hg (N := 5) ?hd (cs := #[.int .i64 a0_0, .int .i64 a0_1, .slice A0_2 l0_2.length c0_2]) (t := 24) ?hr ?_; (case hd => rfl); (case hg => rfl); (case hr => (go_simp; done)); intro gb264 hg w13 hbox hb; have BK264 := Aside0.mk (hbox); have GW264 := Aside0.mk ((by rw [hg]; exact (below_size HB.out) : w.heap.size ≤ gb264)); have GE264 := Aside0.mk ((by rw [hg]; exact (below_size HB.out) : w.heap.size ≤ gb264)); replace HB := Aside0.mk (below_step HB.out hb); clear hb hbox hg) | ((with_reducible refine gate_dst (N := 9) rfl ?_); refine box_event ?hg (N := 9) ?hd (cs := #[.int .i64 a4_0, .int .i64 a4_1, .int .i64 a4_2, .int .i64 a4_3, .int .i64 a4_4, .int .i64 a4_5, .int .i64 a4_6, .int .i64 a4_7]) (t := 25) ?hr ?_; (case hd => rfl); (case hg => rfl); (case hr => (go_simp; done)); intro gb265 hg w14 hbox hb; have BK265 := Aside0.mk (hbox); have GW265 := Aside0.mk ((by rw [hg]; exact (below_size HB.out) : w.heap.size ≤ gb265)); have GE265 := Aside0.mk ((by rw [hg]; exact (below_size HB.out) : w.heap.size ≤ gb265)); replace HB := Aside0.mk (below_step HB.out hb); have NB264_265 := Aside0.mk ((by rw [hg]; exact Nat.ne_of_lt (blk_lt BK264.out) : gb264 ≠ gb265)); have NB265_264 := Aside0.mk ((by rw [hg]; exact Nat.ne_of_gt (blk_lt BK264.out) : gb265 ≠ gb264)); replace BK264 := Aside0.mk (blk_below BK264.out hb); clear hb hbox hg; have hnb15 := NB264_265.out; have hnc15 := NB265_264.out; have hcz16_0 : w14.cell? ⟨gb264, 0, none⟩ = some (.int .i64 a0_0) := (blk_cell BK264.out 0).trans rfl; have hcz16_1 : w14.cell? ⟨gb264, 1, none⟩ = some (.int .i64 a0_1) := (blk_cell BK264.out 1).trans rfl; have hcz16_2 : w14.cell? ⟨gb264, 2, none⟩ = some (.slice A0_2 l0_2.length c0_2) := (blk_cell BK264.out 2).trans rfl; have hfz16_0 := blk_frozen BK264.out 0; have hfz16_1 := blk_frozen BK264.out 1; have hfz16_2 := blk_frozen BK264.out 2) | (go_at_call 80; (with_reducible refine (formeref01_Floor.calls (wrap64 (a0_1 * a2)) 100 t266 _ A12.out).mono ?_); rintro e w' ⟨rfl, ⟨nd, rfl⟩⟩; (try fail)))
     repeat (go_quiet (fail); try go_wp2_with (fail))
     go_ret
     exact ⟨by rfl, by repeat ((with_reducible first | exact HB.out | apply pw_below_drewN))⟩
   · rw [if_neg c11] at H
     have c11b0 : (a0_0 == 2) = false := beq_eq_false_iff_ne.mpr c11
     have c11b1 : (a0_0 != 2) = true := bne_iff_ne.mpr c11
     by_cases c17 : a0_0 = 3
     · rw [if_pos c17] at H
       have c17b0 : (a0_0 == 3) = true := beq_iff_eq.mpr c17
       have c17b1 : (a0_0 != 3) = false := bne_eq_false_iff_eq.mpr c17
       clear c17
       replace H := Option.bind_eq_some_iff.mp H
       obtain ⟨t267, A180, H⟩ := H
       replace H : (some t267) = some r := H
       have A18 := Aside0.mk A180
       clear A180
       obtain rfl := Option.some.inj H
       go_enter Try.func60, Try.ntmps60
       go_wp2_with (first | ((with_reducible refine gate_dst (N := 5) rfl ?_); refine box_event ?hg (N := 5) ?hd (cs := #[.int .i64 a0_0, .int .i64 a0_1, .slice A0_2 l0_2.length c0_2]) (t := 24) ?hr ?_; (case hd => rfl); (case hg => rfl); (case hr => (go_simp; done)); intro gb264 hg w19 hbox hb; have BK264 := Aside0.mk (hbox); have GW264 := Aside0.mk ((by rw [hg]; exact (below_size HB.out) : w.heap.size ≤ gb264)); have GE264 := Aside0.mk ((by rw [hg]; exact (below_size HB.out) : w.heap.size ≤ gb264)); replace HB := Aside0.mk (below_step HB.out hb); clear hb hbox hg) | ((with_reducible refine gate_dst (N := 9) rfl ?_); refine box_event ?hg (N := 9) ?hd (cs := #[.int .i64 a4_0, .int .i64 a4_1, .int .i64 a4_2, .int .i64 a4_3, .int .i64 a4_4, .int .i64 a4_5, .int .i64 a4_6, .int .i64 a4_7]) (t := 25) ?hr ?_; (case hd => rfl); (case hg => rfl); (case hr => (go_simp; done)); intro gb265 hg w20 hbox hb; have BK265 := Aside0.mk (hbox); have GW265 := Aside0.mk ((by rw [hg]; exact (below_size HB.out) : w.heap.size ≤ gb265)); have GE265 := Aside0.mk ((by rw [hg]; exact (below_size HB.out) : w.heap.size ≤ gb265)); replace HB := Aside0.mk (below_step HB.out hb); have NB264_265 := Aside0.mk ((by rw [hg]; exact Nat.ne_of_lt (blk_lt BK264.out) : gb264 ≠ gb265)); have NB265_264 := Aside0.mk ((by rw [hg]; exact Nat.ne_of_gt (blk_lt BK264.out) : gb265 ≠ gb264)); replace BK264 := Aside0.mk (blk_below BK264.out hb); clear hb hbox hg; have hnb21 := NB264_265.out; have hnc21 := NB265_264.out; have hcz22_0 : w20.cell? ⟨gb264, 0, none⟩ = some (.int .i64 a0_0) := (blk_cell BK264.out 0).trans rfl; have hcz22_1 : w20.cell? ⟨gb264, 1, none⟩ = some (.int .i64 a0_1) := (blk_cell BK264.out 1).trans rfl; have hcz22_2 : w20.cell? ⟨gb264, 2, none⟩ = some (.slice A0_2 l0_2.length c0_2) := (blk_cell BK264.out 2).trans rfl; have hfz22_0 := blk_frozen BK264.out 0; have hfz22_1 := blk_frozen BK264.out 1; have hfz22_2 := blk_frozen BK264.out 2) | (go_at_call 80; (with_reducible refine (formeref01_Floor.calls (wrap64 (a0_1 * a3)) 100 t267 _ A18.out).mono ?_); rintro e w' ⟨rfl, ⟨nd, rfl⟩⟩; (try fail)))
       repeat (go_quiet (fail); try go_wp2_with (fail))
       go_ret
       exact ⟨by rfl, by repeat ((with_reducible first | exact HB.out | apply pw_below_drewN))⟩
     · rw [if_neg c17] at H
       have c17b0 : (a0_0 == 3) = false := beq_eq_false_iff_ne.mpr c17
       have c17b1 : (a0_0 != 3) = true := bne_iff_ne.mpr c17
       by_cases c23 : a0_0 = 4
       · rw [if_pos c23] at H
         have c23b0 : (a0_0 == 4) = true := beq_iff_eq.mpr c23
         have c23b1 : (a0_0 != 4) = false := bne_eq_false_iff_eq.mpr c23
         clear c23
         obtain ⟨n, hn8, hw, hr⟩ := at8 H
         clear H
         have HN := Aside0.mk hr
         have HM := Aside0.mk hn8
         have q0 : (0 : Int) ≤ (n : Int) := by omega
         have q1 : (n : Int) < 8 := by omega
         clear hr hn8
         go_enter Try.func60, Try.ntmps60
         go_wp2_with (first | ((with_reducible refine gate_dst (N := 5) rfl ?_); refine box_event ?hg (N := 5) ?hd (cs := #[.int .i64 a0_0, .int .i64 a0_1, .slice A0_2 l0_2.length c0_2]) (t := 24) ?hr ?_; (case hd => rfl); (case hg => rfl); (case hr => (go_simp; done)); intro gb264 hg w24 hbox hb; have BK264 := Aside0.mk (hbox); have GW264 := Aside0.mk ((by rw [hg]; exact (below_size HB.out) : w.heap.size ≤ gb264)); have GE264 := Aside0.mk ((by rw [hg]; exact (below_size HB.out) : w.heap.size ≤ gb264)); replace HB := Aside0.mk (below_step HB.out hb); clear hb hbox hg) | ((with_reducible refine gate_dst (N := 9) rfl ?_); refine box_event ?hg (N := 9) ?hd (cs := #[.int .i64 a4_0, .int .i64 a4_1, .int .i64 a4_2, .int .i64 a4_3, .int .i64 a4_4, .int .i64 a4_5, .int .i64 a4_6, .int .i64 a4_7]) (t := 25) ?hr ?_; (case hd => rfl); (case hg => rfl); (case hr => (go_simp; done)); intro gb265 hg w25 hbox hb; have BK265 := Aside0.mk (hbox); have GW265 := Aside0.mk ((by rw [hg]; exact (below_size HB.out) : w.heap.size ≤ gb265)); have GE265 := Aside0.mk ((by rw [hg]; exact (below_size HB.out) : w.heap.size ≤ gb265)); replace HB := Aside0.mk (below_step HB.out hb); have NB264_265 := Aside0.mk ((by rw [hg]; exact Nat.ne_of_lt (blk_lt BK264.out) : gb264 ≠ gb265)); have NB265_264 := Aside0.mk ((by rw [hg]; exact Nat.ne_of_gt (blk_lt BK264.out) : gb265 ≠ gb264)); replace BK264 := Aside0.mk (blk_below BK264.out hb); clear hb hbox hg; have hnb26 := NB264_265.out; have hnc26 := NB265_264.out; have hcz27_0 : w25.cell? ⟨gb264, 0, none⟩ = some (.int .i64 a0_0) := (blk_cell BK264.out 0).trans rfl; have hcz27_1 : w25.cell? ⟨gb264, 1, none⟩ = some (.int .i64 a0_1) := (blk_cell BK264.out 1).trans rfl; have hcz27_2 : w25.cell? ⟨gb264, 2, none⟩ = some (.slice A0_2 l0_2.length c0_2) := (blk_cell BK264.out 2).trans rfl; have hfz27_0 := blk_frozen BK264.out 0; have hfz27_1 := blk_frozen BK264.out 1; have hfz27_2 := blk_frozen BK264.out 2; have hcz28_0 : w25.cell? ⟨gb265, 0, none⟩ = some (.int .i64 a4_0) := (blk_cell BK265.out 0).trans rfl; have hcz28_1 : w25.cell? ⟨gb265, 1, none⟩ = some (.int .i64 a4_1) := (blk_cell BK265.out 1).trans rfl; have hcz28_2 : w25.cell? ⟨gb265, 2, none⟩ = some (.int .i64 a4_2) := (blk_cell BK265.out 2).trans rfl; have hcz28_3 : w25.cell? ⟨gb265, 3, none⟩ = some (.int .i64 a4_3) := (blk_cell BK265.out 3).trans rfl; have hcz28_4 : w25.cell? ⟨gb265, 4, none⟩ = some (.int .i64 a4_4) := (blk_cell BK265.out 4).trans rfl; have hcz28_5 : w25.cell? ⟨gb265, 5, none⟩ = some (.int .i64 a4_5) := (blk_cell BK265.out 5).trans rfl; have hcz28_6 : w25.cell? ⟨gb265, 6, none⟩ = some (.int .i64 a4_6) := (blk_cell BK265.out 6).trans rfl; have hcz28_7 : w25.cell? ⟨gb265, 7, none⟩ = some (.int .i64 a4_7) := (blk_cell BK265.out 7).trans rfl; have hfz28_0 := blk_frozen BK265.out 0; have hfz28_1 := blk_frozen BK265.out 1; have hfz28_2 := blk_frozen BK265.out 2; have hfz28_3 := blk_frozen BK265.out 3; have hfz28_4 := blk_frozen BK265.out 4; have hfz28_5 := blk_frozen BK265.out 5; have hfz28_6 := blk_frozen BK265.out 6; have hfz28_7 := blk_frozen BK265.out 7; have hcx : w25.cell? ⟨gb265, n, none⟩ = some (.int .i64 r) := cells8 BK265.out HM.out HN.out))
         repeat (go_quiet (fail); try go_wp2_with (fail))
         go_ret
         exact ⟨by rfl, by repeat ((with_reducible exact HB.out))⟩
       · rw [if_neg c23] at H
         have c23b0 : (a0_0 == 4) = false := beq_eq_false_iff_ne.mpr c23
         have c23b1 : (a0_0 != 4) = true := bne_iff_ne.mpr c23
         by_cases c29 : a0_0 = 7
         · rw [if_pos c29] at H
           have c29b0 : (a0_0 == 7) = true := beq_iff_eq.mpr c29
           have c29b1 : (a0_0 != 7) = false := bne_eq_false_iff_eq.mpr c29
           clear c29
           by_cases c30 : 0 < (l1.length : Int)
           · rw [if_pos c30] at H
             have c30b0 : decide (0 < (l1.length : Int)) = true := decide_eq_true c30
             have c30b1 : decide (0 < l1.length) = true := decide_eq_true (by omega)
             clear c30
             obtain rfl := Option.some.inj H
             go_enter Try.func60, Try.ntmps60
             go_wp2_with (first | ((with_reducible refine gate_dst (N := 5) rfl ?_); refine box_event ?hg (N := 5) ?hd (cs := #[.int .i64 a0_0, .int .i64 a0_1, .slice A0_2 l0_2.length c0_2]) (t := 24) ?hr ?_; (case hd => rfl); (case hg => rfl); (case hr => (go_simp; done)); intro gb264 hg w31 hbox hb; have BK264 := Aside0.mk (hbox); have GW264 := Aside0.mk ((by rw [hg]; exact (below_size HB.out) : w.heap.size ≤ gb264)); have GE264 := Aside0.mk ((by rw [hg]; exact (below_size HB.out) : w.heap.size ≤ gb264)); replace HB := Aside0.mk (below_step HB.out hb); clear hb hbox hg) | ((with_reducible refine gate_dst (N := 9) rfl ?_); refine box_event ?hg (N := 9) ?hd (cs := #[.int .i64 a4_0, .int .i64 a4_1, .int .i64 a4_2, .int .i64 a4_3, .int .i64 a4_4, .int .i64 a4_5, .int .i64 a4_6, .int .i64 a4_7]) (t := 25) ?hr ?_; (case hd => rfl); (case hg => rfl); (case hr => (go_simp; done)); intro gb265 hg w32 hbox hb; have BK265 := Aside0.mk (hbox); have GW265 := Aside0.mk ((by rw [hg]; exact (below_size HB.out) : w.heap.size ≤ gb265)); have GE265 := Aside0.mk ((by rw [hg]; exact (below_size HB.out) : w.heap.size ≤ gb265)); replace HB := Aside0.mk (below_step HB.out hb); have NB264_265 := Aside0.mk ((by rw [hg]; exact Nat.ne_of_lt (blk_lt BK264.out) : gb264 ≠ gb265)); have NB265_264 := Aside0.mk ((by rw [hg]; exact Nat.ne_of_gt (blk_lt BK264.out) : gb265 ≠ gb264)); replace BK264 := Aside0.mk (blk_below BK264.out hb); clear hb hbox hg; have hnb33 := NB264_265.out; have hnc33 := NB265_264.out; have hcz34_0 : w32.cell? ⟨gb264, 0, none⟩ = some (.int .i64 a0_0) := (blk_cell BK264.out 0).trans rfl; have hcz34_1 : w32.cell? ⟨gb264, 1, none⟩ = some (.int .i64 a0_1) := (blk_cell BK264.out 1).trans rfl; have hcz34_2 : w32.cell? ⟨gb264, 2, none⟩ = some (.slice A0_2 l0_2.length c0_2) := (blk_cell BK264.out 2).trans rfl; have hfz34_0 := blk_frozen BK264.out 0; have hfz34_1 := blk_frozen BK264.out 1; have hfz34_2 := blk_frozen BK264.out 2; have p268 : 0 ≤ (0 : Int) := (by omega); have q268 : 0 < (l1.length : Int) := of_decide_eq_true (by (with_reducible assumption)); obtain ⟨ad268, e268, hx268_0⟩ := Kd.at_int HR1.out 0 p268 q268; cases e268; have qi268 : (0 < l1.length) = True := eq_true (by omega); (try rw [show ((0 : Int)).toNat = 0 from rfl] at hx268_0); (try rw [Addr.add_zero'] at hx268_0); replace hx268_0 := (HB.out.cell (World.block_lt_of_cell? w _ hx268_0)).trans hx268_0; replace p268 := eq_true p268; replace q268 := eq_true q268))
             repeat (go_quiet (fail); try go_wp2_with (fail))
             go_ret
             exact ⟨by rfl, by repeat ((with_reducible first | exact HB.out | apply pw_below_drewN))⟩
           · rw [if_neg c30] at H
             exact absurd H (by simp)
         · rw [if_neg c29] at H
           have c29b0 : (a0_0 == 7) = false := beq_eq_false_iff_ne.mpr c29
           have c29b1 : (a0_0 != 7) = true := bne_iff_ne.mpr c29
           by_cases c35 : a0_0 = 8
           · rw [if_pos c35] at H
             have c35b0 : (a0_0 == 8) = true := beq_iff_eq.mpr c35
             have c35b1 : (a0_0 != 8) = false := bne_eq_false_iff_eq.mpr c35
             clear c35
             by_cases c36 : 0 < (l1.length : Int)
             · rw [if_pos c36] at H
               have c36b0 : decide (0 < (l1.length : Int)) = true := decide_eq_true c36
               have c36b1 : decide (0 < l1.length) = true := decide_eq_true (by omega)
               clear c36
               replace H := Option.bind_eq_some_iff.mp H
               obtain ⟨t270, A370, H⟩ := H
               replace H : (some t270) = some r := H
               have A37 := Aside0.mk A370
               clear A370
               obtain rfl := Option.some.inj H
               go_enter Try.func60, Try.ntmps60
               go_wp2_with (first | ((with_reducible refine gate_dst (N := 5) rfl ?_); refine box_event ?hg (N := 5) ?hd (cs := #[.int .i64 a0_0, .int .i64 a0_1, .slice A0_2 l0_2.length c0_2]) (t := 24) ?hr ?_; (case hd => rfl); (case hg => rfl); (case hr => (go_simp; done)); intro gb264 hg w38 hbox hb; have BK264 := Aside0.mk (hbox); have GW264 := Aside0.mk ((by rw [hg]; exact (below_size HB.out) : w.heap.size ≤ gb264)); have GE264 := Aside0.mk ((by rw [hg]; exact (below_size HB.out) : w.heap.size ≤ gb264)); replace HB := Aside0.mk (below_step HB.out hb); clear hb hbox hg) | ((with_reducible refine gate_dst (N := 9) rfl ?_); refine box_event ?hg (N := 9) ?hd (cs := #[.int .i64 a4_0, .int .i64 a4_1, .int .i64 a4_2, .int .i64 a4_3, .int .i64 a4_4, .int .i64 a4_5, .int .i64 a4_6, .int .i64 a4_7]) (t := 25) ?hr ?_; (case hd => rfl); (case hg => rfl); (case hr => (go_simp; done)); intro gb265 hg w39 hbox hb; have BK265 := Aside0.mk (hbox); have GW265 := Aside0.mk ((by rw [hg]; exact (below_size HB.out) : w.heap.size ≤ gb265)); have GE265 := Aside0.mk ((by rw [hg]; exact (below_size HB.out) : w.heap.size ≤ gb265)); replace HB := Aside0.mk (below_step HB.out hb); have NB264_265 := Aside0.mk ((by rw [hg]; exact Nat.ne_of_lt (blk_lt BK264.out) : gb264 ≠ gb265)); have NB265_264 := Aside0.mk ((by rw [hg]; exact Nat.ne_of_gt (blk_lt BK264.out) : gb265 ≠ gb264)); replace BK264 := Aside0.mk (blk_below BK264.out hb); clear hb hbox hg; have hnb40 := NB264_265.out; have hnc40 := NB265_264.out; have hcz41_0 : w39.cell? ⟨gb264, 0, none⟩ = some (.int .i64 a0_0) := (blk_cell BK264.out 0).trans rfl; have hcz41_1 : w39.cell? ⟨gb264, 1, none⟩ = some (.int .i64 a0_1) := (blk_cell BK264.out 1).trans rfl; have hcz41_2 : w39.cell? ⟨gb264, 2, none⟩ = some (.slice A0_2 l0_2.length c0_2) := (blk_cell BK264.out 2).trans rfl; have hfz41_0 := blk_frozen BK264.out 0; have hfz41_1 := blk_frozen BK264.out 1; have hfz41_2 := blk_frozen BK264.out 2; have p269 : 0 ≤ (0 : Int) := (by omega); have q269 : 0 < (l1.length : Int) := of_decide_eq_true (by (with_reducible assumption)); obtain ⟨ad269, e269, hx269_0⟩ := Kd.at_int HR1.out 0 p269 q269; cases e269; have qi269 : (0 < l1.length) = True := eq_true (by omega); (try rw [show ((0 : Int)).toNat = 0 from rfl] at hx269_0); (try rw [Addr.add_zero'] at hx269_0); replace hx269_0 := (HB.out.cell (World.block_lt_of_cell? w _ hx269_0)).trans hx269_0; replace p269 := eq_true p269; replace q269 := eq_true q269))
               repeat (go_quiet ((go_at_call 80; (with_reducible refine (formeref01_Floor.calls (rd l1 0) a0_1 t270 _ A37.out).mono ?_); rintro e w' ⟨rfl, ⟨nd, rfl⟩⟩; (try exact ⟨rfl, _, World.drewN_drewN _ _ _⟩))); try go_wp2_with (fail))
               go_ret
               exact ⟨by rfl, by repeat ((with_reducible first | exact HB.out | apply pw_below_drewN))⟩
             · rw [if_neg c36] at H
               exact absurd H (by simp)
           · rw [if_neg c35] at H
             have c35b0 : (a0_0 == 8) = false := beq_eq_false_iff_ne.mpr c35
             have c35b1 : (a0_0 != 8) = true := bne_iff_ne.mpr c35
             by_cases c42 : a0_0 = 5
             · rw [if_pos c42] at H
               have c42b0 : (a0_0 == 5) = true := beq_iff_eq.mpr c42
               have c42b1 : (a0_0 != 5) = false := bne_eq_false_iff_eq.mpr c42
               clear c42
               by_cases c43 : 0 < (l1.length : Int)
               · rw [if_pos c43] at H
                 have c43b0 : decide (0 < (l1.length : Int)) = true := decide_eq_true c43
                 have c43b1 : decide (0 < l1.length) = true := decide_eq_true (by omega)
                 clear c43
                 by_cases c44 : 1 < (l1.length : Int)
                 · rw [if_pos c44] at H
                   have c44b0 : decide (1 < (l1.length : Int)) = true := decide_eq_true c44
                   have c44b1 : decide (1 < l1.length) = true := decide_eq_true (by omega)
                   clear c44
                   obtain rfl := Option.some.inj H
                   go_enter Try.func60, Try.ntmps60
                   go_wp2_with (first | ((with_reducible refine gate_dst (N := 5) rfl ?_); refine box_event ?hg (N := 5) ?hd (cs := #[.int .i64 a0_0, .int .i64 a0_1, .slice A0_2 l0_2.length c0_2]) (t := 24) ?hr ?_; (case hd => rfl); (case hg => rfl); (case hr => (go_simp; done)); intro gb264 hg w45 hbox hb; have BK264 := Aside0.mk (hbox); have GW264 := Aside0.mk ((by rw [hg]; exact (below_size HB.out) : w.heap.size ≤ gb264)); have GE264 := Aside0.mk ((by rw [hg]; exact (below_size HB.out) : w.heap.size ≤ gb264)); replace HB := Aside0.mk (below_step HB.out hb); clear hb hbox hg) | ((with_reducible refine gate_dst (N := 9) rfl ?_); refine box_event ?hg (N := 9) ?hd (cs := #[.int .i64 a4_0, .int .i64 a4_1, .int .i64 a4_2, .int .i64 a4_3, .int .i64 a4_4, .int .i64 a4_5, .int .i64 a4_6, .int .i64 a4_7]) (t := 25) ?hr ?_; (case hd => rfl); (case hg => rfl); (case hr => (go_simp; done)); intro gb265 hg w46 hbox hb; have BK265 := Aside0.mk (hbox); have GW265 := Aside0.mk ((by rw [hg]; exact (below_size HB.out) : w.heap.size ≤ gb265)); have GE265 := Aside0.mk ((by rw [hg]; exact (below_size HB.out) : w.heap.size ≤ gb265)); replace HB := Aside0.mk (below_step HB.out hb); have NB264_265 := Aside0.mk ((by rw [hg]; exact Nat.ne_of_lt (blk_lt BK264.out) : gb264 ≠ gb265)); have NB265_264 := Aside0.mk ((by rw [hg]; exact Nat.ne_of_gt (blk_lt BK264.out) : gb265 ≠ gb264)); replace BK264 := Aside0.mk (blk_below BK264.out hb); clear hb hbox hg; have hnb47 := NB264_265.out; have hnc47 := NB265_264.out; have hcz48_0 : w46.cell? ⟨gb264, 0, none⟩ = some (.int .i64 a0_0) := (blk_cell BK264.out 0).trans rfl; have hcz48_1 : w46.cell? ⟨gb264, 1, none⟩ = some (.int .i64 a0_1) := (blk_cell BK264.out 1).trans rfl; have hcz48_2 : w46.cell? ⟨gb264, 2, none⟩ = some (.slice A0_2 l0_2.length c0_2) := (blk_cell BK264.out 2).trans rfl; have hfz48_0 := blk_frozen BK264.out 0; have hfz48_1 := blk_frozen BK264.out 1; have hfz48_2 := blk_frozen BK264.out 2; have p271 : 0 ≤ (0 : Int) := (by omega); have q271 : 0 < (l1.length : Int) := of_decide_eq_true (by (with_reducible assumption)); obtain ⟨ad271, e271, hx271_0⟩ := Kd.at_int HR1.out 0 p271 q271; cases e271; have qi271 : (0 < l1.length) = True := eq_true (by omega); (try rw [show ((0 : Int)).toNat = 0 from rfl] at hx271_0); (try rw [Addr.add_zero'] at hx271_0); replace hx271_0 := (HB.out.cell (World.block_lt_of_cell? w _ hx271_0)).trans hx271_0; replace p271 := eq_true p271; replace q271 := eq_true q271; have p272 : 0 ≤ (1 : Int) := (by omega); have q272 : 1 < (l1.length : Int) := of_decide_eq_true (by (with_reducible assumption)); obtain ⟨ad272, e272, hx272_0⟩ := Kd.at_int HR1.out 1 p272 q272; obtain rfl : ad271 = ad272 := (by injection e272); (try simp only [show (1 : Int).toNat = 1 from rfl, Nat.reduceMul, Nat.reduceEqDiff, Go.Addr.add, ↓reduceIte] at hx272_0); have qi272 : (1 < l1.length) = True := eq_true (by omega); (try rw [show ((1 : Int)).toNat = 1 from rfl] at hx272_0); replace hx272_0 := (HB.out.cell (World.block_lt_of_cell? w _ hx272_0)).trans hx272_0; replace p272 := eq_true p272; replace q272 := eq_true q272))
                   repeat (go_quiet (fail); try go_wp2_with (fail))
                   go_ret
                   exact ⟨by rfl, by repeat ((with_reducible first | exact HB.out | apply pw_below_drewN))⟩
                 · rw [if_neg c44] at H
                   exact absurd H (by simp)
               · rw [if_neg c43] at H
                 exact absurd H (by simp)
             · rw [if_neg c42] at H
               have c42b0 : (a0_0 == 5) = false := beq_eq_false_iff_ne.mpr c42
               have c42b1 : (a0_0 != 5) = true := bne_iff_ne.mpr c42
               by_cases c49 : a0_0 = 6
               · rw [if_pos c49] at H
                 have c49b0 : (a0_0 == 6) = true := beq_iff_eq.mpr c49
                 have c49b1 : (a0_0 != 6) = false := bne_eq_false_iff_eq.mpr c49
                 clear c49
                 by_cases c50 : 0 < (l1.length : Int)
                 · rw [if_pos c50] at H
                   have c50b0 : decide (0 < (l1.length : Int)) = true := decide_eq_true c50
                   have c50b1 : decide (0 < l1.length) = true := decide_eq_true (by omega)
                   clear c50
                   by_cases c51 : 1 < (l1.length : Int)
                   · rw [if_pos c51] at H
                     have c51b0 : decide (1 < (l1.length : Int)) = true := decide_eq_true c51
                     have c51b1 : decide (1 < l1.length) = true := decide_eq_true (by omega)
                     clear c51
                     obtain rfl := Option.some.inj H
                     go_enter Try.func60, Try.ntmps60
                     go_wp2_with (first | ((with_reducible refine gate_dst (N := 5) rfl ?_); refine box_event ?hg (N := 5) ?hd (cs := #[.int .i64 a0_0, .int .i64 a0_1, .slice A0_2 l0_2.length c0_2]) (t := 24) ?hr ?_; (case hd => rfl); (case hg => rfl); (case hr => (go_simp; done)); intro gb264 hg w52 hbox hb; have BK264 := Aside0.mk (hbox); have GW264 := Aside0.mk ((by rw [hg]; exact (below_size HB.out) : w.heap.size ≤ gb264)); have GE264 := Aside0.mk ((by rw [hg]; exact (below_size HB.out) : w.heap.size ≤ gb264)); replace HB := Aside0.mk (below_step HB.out hb); clear hb hbox hg) | ((with_reducible refine gate_dst (N := 9) rfl ?_); refine box_event ?hg (N := 9) ?hd (cs := #[.int .i64 a4_0, .int .i64 a4_1, .int .i64 a4_2, .int .i64 a4_3, .int .i64 a4_4, .int .i64 a4_5, .int .i64 a4_6, .int .i64 a4_7]) (t := 25) ?hr ?_; (case hd => rfl); (case hg => rfl); (case hr => (go_simp; done)); intro gb265 hg w53 hbox hb; have BK265 := Aside0.mk (hbox); have GW265 := Aside0.mk ((by rw [hg]; exact (below_size HB.out) : w.heap.size ≤ gb265)); have GE265 := Aside0.mk ((by rw [hg]; exact (below_size HB.out) : w.heap.size ≤ gb265)); replace HB := Aside0.mk (below_step HB.out hb); have NB264_265 := Aside0.mk ((by rw [hg]; exact Nat.ne_of_lt (blk_lt BK264.out) : gb264 ≠ gb265)); have NB265_264 := Aside0.mk ((by rw [hg]; exact Nat.ne_of_gt (blk_lt BK264.out) : gb265 ≠ gb264)); replace BK264 := Aside0.mk (blk_below BK264.out hb); clear hb hbox hg; have hnb54 := NB264_265.out; have hnc54 := NB265_264.out; have hcz55_0 : w53.cell? ⟨gb264, 0, none⟩ = some (.int .i64 a0_0) := (blk_cell BK264.out 0).trans rfl; have hcz55_1 : w53.cell? ⟨gb264, 1, none⟩ = some (.int .i64 a0_1) := (blk_cell BK264.out 1).trans rfl; have hcz55_2 : w53.cell? ⟨gb264, 2, none⟩ = some (.slice A0_2 l0_2.length c0_2) := (blk_cell BK264.out 2).trans rfl; have hfz55_0 := blk_frozen BK264.out 0; have hfz55_1 := blk_frozen BK264.out 1; have hfz55_2 := blk_frozen BK264.out 2; have p273 : 0 ≤ (0 : Int) := (by omega); have q273 : 0 < (l1.length : Int) := of_decide_eq_true (by (with_reducible assumption)); obtain ⟨ad273, e273, hx273_0⟩ := Kd.at_int HR1.out 0 p273 q273; cases e273; have qi273 : (0 < l1.length) = True := eq_true (by omega); (try rw [show ((0 : Int)).toNat = 0 from rfl] at hx273_0); (try rw [Addr.add_zero'] at hx273_0); replace hx273_0 := (HB.out.cell (World.block_lt_of_cell? w _ hx273_0)).trans hx273_0; replace p273 := eq_true p273; replace q273 := eq_true q273; have p274 : 0 ≤ (1 : Int) := (by omega); have q274 : 1 < (l1.length : Int) := of_decide_eq_true (by (with_reducible assumption)); obtain ⟨ad274, e274, hx274_0⟩ := Kd.at_int HR1.out 1 p274 q274; obtain rfl : ad273 = ad274 := (by injection e274); (try simp only [show (1 : Int).toNat = 1 from rfl, Nat.reduceMul, Nat.reduceEqDiff, Go.Addr.add, ↓reduceIte] at hx274_0); have qi274 : (1 < l1.length) = True := eq_true (by omega); (try rw [show ((1 : Int)).toNat = 1 from rfl] at hx274_0); replace hx274_0 := (HB.out.cell (World.block_lt_of_cell? w _ hx274_0)).trans hx274_0; replace p274 := eq_true p274; replace q274 := eq_true q274))
                     repeat (go_quiet (fail); try go_wp2_with (fail))
                     go_ret
                     exact ⟨by rfl, by repeat ((with_reducible first | exact HB.out | apply pw_below_drewN))⟩
                   · rw [if_neg c51] at H
                     exact absurd H (by simp)
                 · rw [if_neg c50] at H
                   exact absurd H (by simp)
               · rw [if_neg c49] at H
                 have c49b0 : (a0_0 == 6) = false := beq_eq_false_iff_ne.mpr c49
                 have c49b1 : (a0_0 != 6) = true := bne_iff_ne.mpr c49
                 by_cases c56 : a0_0 = 9
                 · rw [if_pos c56] at H
                   have c56b0 : (a0_0 == 9) = true := beq_iff_eq.mpr c56
                   have c56b1 : (a0_0 != 9) = false := bne_eq_false_iff_eq.mpr c56
                   clear c56
                   by_cases c57 : 0 < (l1.length : Int)
                   · rw [if_pos c57] at H
                     have c57b0 : decide (0 < (l1.length : Int)) = true := decide_eq_true c57
                     have c57b1 : decide (0 < l1.length) = true := decide_eq_true (by omega)
                     clear c57
                     by_cases c58 : 1 < (l1.length : Int)
                     · rw [if_pos c58] at H
                       have c58b0 : decide (1 < (l1.length : Int)) = true := decide_eq_true c58
                       have c58b1 : decide (1 < l1.length) = true := decide_eq_true (by omega)
                       clear c58
                       obtain ⟨ji59, hji59⟩ : ∃ j_ : Int, (mn (rd l1 0) (rd l1 1)) = j_ := ⟨_, rfl⟩
                       replace H : (some ji59) = some r := by (rw [hji59] at H; exact H)
                       have hji59_ : (if (rd l1 1) < (rd l1 0) then (rd l1 1) else (rd l1 0)) = ji59 := hji59
                       obtain rfl := Option.some.inj H
                       go_enter Try.func60, Try.ntmps60
                       go_wp2_with (first | ((with_reducible refine gate_dst (N := 5) rfl ?_); refine box_event ?hg (N := 5) ?hd (cs := #[.int .i64 a0_0, .int .i64 a0_1, .slice A0_2 l0_2.length c0_2]) (t := 24) ?hr ?_; (case hd => rfl); (case hg => rfl); (case hr => (go_simp; done)); intro gb264 hg w60 hbox hb; have BK264 := Aside0.mk (hbox); have GW264 := Aside0.mk ((by rw [hg]; exact (below_size HB.out) : w.heap.size ≤ gb264)); have GE264 := Aside0.mk ((by rw [hg]; exact (below_size HB.out) : w.heap.size ≤ gb264)); replace HB := Aside0.mk (below_step HB.out hb); clear hb hbox hg) | ((with_reducible refine gate_dst (N := 9) rfl ?_); refine box_event ?hg (N := 9) ?hd (cs := #[.int .i64 a4_0, .int .i64 a4_1, .int .i64 a4_2, .int .i64 a4_3, .int .i64 a4_4, .int .i64 a4_5, .int .i64 a4_6, .int .i64 a4_7]) (t := 25) ?hr ?_; (case hd => rfl); (case hg => rfl); (case hr => (go_simp; done)); intro gb265 hg w61 hbox hb; have BK265 := Aside0.mk (hbox); have GW265 := Aside0.mk ((by rw [hg]; exact (below_size HB.out) : w.heap.size ≤ gb265)); have GE265 := Aside0.mk ((by rw [hg]; exact (below_size HB.out) : w.heap.size ≤ gb265)); replace HB := Aside0.mk (below_step HB.out hb); have NB264_265 := Aside0.mk ((by rw [hg]; exact Nat.ne_of_lt (blk_lt BK264.out) : gb264 ≠ gb265)); have NB265_264 := Aside0.mk ((by rw [hg]; exact Nat.ne_of_gt (blk_lt BK264.out) : gb265 ≠ gb264)); replace BK264 := Aside0.mk (blk_below BK264.out hb); clear hb hbox hg; have hnb62 := NB264_265.out; have hnc62 := NB265_264.out; have hcz63_0 : w61.cell? ⟨gb264, 0, none⟩ = some (.int .i64 a0_0) := (blk_cell BK264.out 0).trans rfl; have hcz63_1 : w61.cell? ⟨gb264, 1, none⟩ = some (.int .i64 a0_1) := (blk_cell BK264.out 1).trans rfl; have hcz63_2 : w61.cell? ⟨gb264, 2, none⟩ = some (.slice A0_2 l0_2.length c0_2) := (blk_cell BK264.out 2).trans rfl; have hfz63_0 := blk_frozen BK264.out 0; have hfz63_1 := blk_frozen BK264.out 1; have hfz63_2 := blk_frozen BK264.out 2; have p275 : 0 ≤ (0 : Int) := (by omega); have q275 : 0 < (l1.length : Int) := of_decide_eq_true (by (with_reducible assumption)); obtain ⟨ad275, e275, hx275_0⟩ := Kd.at_int HR1.out 0 p275 q275; cases e275; have qi275 : (0 < l1.length) = True := eq_true (by omega); (try rw [show ((0 : Int)).toNat = 0 from rfl] at hx275_0); (try rw [Addr.add_zero'] at hx275_0); replace hx275_0 := (HB.out.cell (World.block_lt_of_cell? w _ hx275_0)).trans hx275_0; replace p275 := eq_true p275; replace q275 := eq_true q275; have p276 : 0 ≤ (1 : Int) := (by omega); have q276 : 1 < (l1.length : Int) := of_decide_eq_true (by (with_reducible assumption)); obtain ⟨ad276, e276, hx276_0⟩ := Kd.at_int HR1.out 1 p276 q276; obtain rfl : ad275 = ad276 := (by injection e276); (try simp only [show (1 : Int).toNat = 1 from rfl, Nat.reduceMul, Nat.reduceEqDiff, Go.Addr.add, ↓reduceIte] at hx276_0); have qi276 : (1 < l1.length) = True := eq_true (by omega); (try rw [show ((1 : Int)).toNat = 1 from rfl] at hx276_0); replace hx276_0 := (HB.out.cell (World.block_lt_of_cell? w _ hx276_0)).trans hx276_0; replace p276 := eq_true p276; replace q276 := eq_true q276))
                       repeat (go_quiet (fail); try go_wp2_with (fail))
                       go_ret
                       exact ⟨by rfl, by repeat ((with_reducible first | exact HB.out | apply pw_below_drewN))⟩
                     · rw [if_neg c58] at H
                       exact absurd H (by simp)
                   · rw [if_neg c57] at H
                     exact absurd H (by simp)
                 · rw [if_neg c56] at H
                   have c56b0 : (a0_0 == 9) = false := beq_eq_false_iff_ne.mpr c56
                   have c56b1 : (a0_0 != 9) = true := bne_iff_ne.mpr c56
                   by_cases c64 : 0 < (l1.length : Int)
                   · rw [if_pos c64] at H
                     have c64b0 : decide (0 < (l1.length : Int)) = true := decide_eq_true c64
                     have c64b1 : decide (0 < l1.length) = true := decide_eq_true (by omega)
                     clear c64
                     by_cases c65 : 1 < (l1.length : Int)
                     · rw [if_pos c65] at H
                       have c65b0 : decide (1 < (l1.length : Int)) = true := decide_eq_true c65
                       have c65b1 : decide (1 < l1.length) = true := decide_eq_true (by omega)
                       clear c65
                       obtain ⟨ji66, hji66⟩ : ∃ j_ : Int, (mx (rd l1 0) (rd l1 1)) = j_ := ⟨_, rfl⟩
                       replace H : (some ji66) = some r := by (rw [hji66] at H; exact H)
                       have hji66_ : (if (rd l1 0) < (rd l1 1) then (rd l1 1) else (rd l1 0)) = ji66 := hji66
                       obtain rfl := Option.some.inj H
                       go_enter Try.func60, Try.ntmps60
                       go_wp2_with (first | ((with_reducible refine gate_dst (N := 5) rfl ?_); refine box_event ?hg (N := 5) ?hd (cs := #[.int .i64 a0_0, .int .i64 a0_1, .slice A0_2 l0_2.length c0_2]) (t := 24) ?hr ?_; (case hd => rfl); (case hg => rfl); (case hr => (go_simp; done)); intro gb264 hg w67 hbox hb; have BK264 := Aside0.mk (hbox); have GW264 := Aside0.mk ((by rw [hg]; exact (below_size HB.out) : w.heap.size ≤ gb264)); have GE264 := Aside0.mk ((by rw [hg]; exact (below_size HB.out) : w.heap.size ≤ gb264)); replace HB := Aside0.mk (below_step HB.out hb); clear hb hbox hg) | ((with_reducible refine gate_dst (N := 9) rfl ?_); refine box_event ?hg (N := 9) ?hd (cs := #[.int .i64 a4_0, .int .i64 a4_1, .int .i64 a4_2, .int .i64 a4_3, .int .i64 a4_4, .int .i64 a4_5, .int .i64 a4_6, .int .i64 a4_7]) (t := 25) ?hr ?_; (case hd => rfl); (case hg => rfl); (case hr => (go_simp; done)); intro gb265 hg w68 hbox hb; have BK265 := Aside0.mk (hbox); have GW265 := Aside0.mk ((by rw [hg]; exact (below_size HB.out) : w.heap.size ≤ gb265)); have GE265 := Aside0.mk ((by rw [hg]; exact (below_size HB.out) : w.heap.size ≤ gb265)); replace HB := Aside0.mk (below_step HB.out hb); have NB264_265 := Aside0.mk ((by rw [hg]; exact Nat.ne_of_lt (blk_lt BK264.out) : gb264 ≠ gb265)); have NB265_264 := Aside0.mk ((by rw [hg]; exact Nat.ne_of_gt (blk_lt BK264.out) : gb265 ≠ gb264)); replace BK264 := Aside0.mk (blk_below BK264.out hb); clear hb hbox hg; have hnb69 := NB264_265.out; have hnc69 := NB265_264.out; have hcz70_0 : w68.cell? ⟨gb264, 0, none⟩ = some (.int .i64 a0_0) := (blk_cell BK264.out 0).trans rfl; have hcz70_1 : w68.cell? ⟨gb264, 1, none⟩ = some (.int .i64 a0_1) := (blk_cell BK264.out 1).trans rfl; have hcz70_2 : w68.cell? ⟨gb264, 2, none⟩ = some (.slice A0_2 l0_2.length c0_2) := (blk_cell BK264.out 2).trans rfl; have hfz70_0 := blk_frozen BK264.out 0; have hfz70_1 := blk_frozen BK264.out 1; have hfz70_2 := blk_frozen BK264.out 2; have p277 : 0 ≤ (0 : Int) := (by omega); have q277 : 0 < (l1.length : Int) := of_decide_eq_true (by (with_reducible assumption)); obtain ⟨ad277, e277, hx277_0⟩ := Kd.at_int HR1.out 0 p277 q277; cases e277; have qi277 : (0 < l1.length) = True := eq_true (by omega); (try rw [show ((0 : Int)).toNat = 0 from rfl] at hx277_0); (try rw [Addr.add_zero'] at hx277_0); replace hx277_0 := (HB.out.cell (World.block_lt_of_cell? w _ hx277_0)).trans hx277_0; replace p277 := eq_true p277; replace q277 := eq_true q277; have p278 : 0 ≤ (1 : Int) := (by omega); have q278 : 1 < (l1.length : Int) := of_decide_eq_true (by (with_reducible assumption)); obtain ⟨ad278, e278, hx278_0⟩ := Kd.at_int HR1.out 1 p278 q278; obtain rfl : ad277 = ad278 := (by injection e278); (try simp only [show (1 : Int).toNat = 1 from rfl, Nat.reduceMul, Nat.reduceEqDiff, Go.Addr.add, ↓reduceIte] at hx278_0); have qi278 : (1 < l1.length) = True := eq_true (by omega); (try rw [show ((1 : Int)).toNat = 1 from rfl] at hx278_0); replace hx278_0 := (HB.out.cell (World.block_lt_of_cell? w _ hx278_0)).trans hx278_0; replace p278 := eq_true p278; replace q278 := eq_true q278))
                       repeat (go_quiet (fail); try go_wp2_with (fail))
                       go_ret
                       exact ⟨by rfl, by repeat ((with_reducible first | exact HB.out | apply pw_below_drewN))⟩
                     · rw [if_neg c65] at H
                       exact absurd H (by simp)
                   · rw [if_neg c64] at H
                     exact absurd H (by simp)
end Go.Proofs.Ytdigjjncoeaiiaa.PAll
