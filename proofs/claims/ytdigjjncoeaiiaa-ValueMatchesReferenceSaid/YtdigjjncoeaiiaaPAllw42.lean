/- Printed by a program of this session (wip/gprint.py) over the translation, cut to what is named (wip/dcut.py). Not trusted: Lean checks it. -/
import Derived.Test.YtdigjjncoeaiiaaPAlld0
import Derived.Test.YtdigjjncoeaiiaaPAllw39
import Derived.Test.YtdigjjncoeaiiaaPAllw40
import Derived.Test.YtdigjjncoeaiiaaPAllw33
namespace Go.Proofs.Ytdigjjncoeaiiaa.PAll
open Go.RowKit Go.Proofs.YtdigjjncoeaiiaaW.PrintWords Go.Proofs.YtdigjjncoeaiiaaW.PrintLast Go.Proofs.YtdigjjncoeaiiaaW.PrintMore
attribute [local go_sem] max2_int min2_int max_two min_two max_three min_three max_four min_four -- for this text's walks alone
set_option linter.unusedVariables false
set_option linter.unusedSimpArgs false
section
set_option maxHeartbeats 8000000 in
set_option maxRecDepth 100000 in
theorem formeref01_Fit.calls (k : Nat) (A0 : Option Addr) (c0 : Nat) (l0 : List Int) (r1 : Int) (r2 : Int) (r3 : Int) (r4 : Bool) (r5 : Int) (w : World) (hr0 : Kd.C (Kd.int .i64) w A0 l0.length l0) (hc0 : l0.length ≤ c0) (h : formeref01_Fit.f k l0 = some (r1, r2, r3, r4, r5)) :
  Calls Try.prog 85 #[.slice A0 l0.length c0] w fun e w' => e = .returned (.tuple #[.agg #[.int .i64 r1, .int .i64 r2, .int .i64 r3], .bool r4, .int .i64 r5]) ∧ Below w.heap.size w w' := by
 have hu55 := Try.underlying55
 have HR0 := Aside0.mk hr0
 have HC0 := Aside0.mk hc0
 clear hr0 hc0
 have HB := Aside0.mk (Below.refl w.heap.size w)
 have H : (if (l0.length : Int) > 4000 then (some (0, 0, 0, false, 2)) else ((formeref01_Values.f k l0).bind fun t254 => (if t254 = true then (formeref01_Fit.l0 k l0 1) else (some (0, 0, 0, false, 1))))) = some (r1, r2, r3, r4, r5) := h
 clear h
 by_cases c2 : (l0.length : Int) > 4000
 · rw [if_pos c2] at H
   have c2b0 : decide (4000 < (l0.length : Int)) = true := decide_eq_true c2
   have c2b1 : decide (4000 < l0.length) = true := decide_eq_true (by omega)
   clear c2
   simp only [Option.some.injEq, Prod.mk.injEq] at H
   obtain ⟨rfl, rfl, rfl, rfl, rfl⟩ := H
   go_enter Try.func85, Try.ntmps85
   go_wp2_with (((with_reducible refine gate_dst (N := 2) rfl ?_); refine box_event ?hg (N := 2) ?hd (cs := #[.int .i64 0, .int .i64 0, .int .i64 0]) (t := 55) ?hr ?_; (case hd => rfl); (case hg => rfl); (case hr => (go_simp; done)); intro gb253 hg w3 hbox hb; have BK253 := Aside0.mk (hbox); have GW253 := Aside0.mk ((by rw [hg]; exact (below_size HB.out) : w.heap.size ≤ gb253)); have GE253 := Aside0.mk ((by rw [hg]; exact (below_size HB.out) : w.heap.size ≤ gb253)); replace HB := Aside0.mk (below_step HB.out hb); clear hb hbox hg; have hcz4_0 : w3.cell? ⟨gb253, 0, none⟩ = some (.int .i64 0) := (blk_cell BK253.out 0).trans rfl; have hcz4_1 : w3.cell? ⟨gb253, 1, none⟩ = some (.int .i64 0) := (blk_cell BK253.out 1).trans rfl; have hcz4_2 : w3.cell? ⟨gb253, 2, none⟩ = some (.int .i64 0) := (blk_cell BK253.out 2).trans rfl; have hfz4_0 := blk_frozen BK253.out 0; have hfz4_1 := blk_frozen BK253.out 1; have hfz4_2 := blk_frozen BK253.out 2))
   refine bodyPost_ret (results_ctt rfl _ _ gb253 55 #[.int .i64 0, .int .i64 0, .int .i64 0] (0, 0) _ rfl (by (with_reducible repeat (fail)); refine blk_put (cs := #[.int .i64 0, .int .i64 0, .int .i64 0]) ?_ 2 _ rfl; (with_reducible repeat (fail)); refine blk_put (cs := #[.int .i64 0, .int .i64 0, .int .i64 0]) ?_ 1 _ rfl; (with_reducible repeat (fail)); refine blk_put (cs := #[.int .i64 0, .int .i64 0, .int .i64 0]) ?_ 0 _ rfl; (with_reducible repeat (fail)); exact BK253.out) Try.underlying55 rfl (by kernel_rfl)) rfl ?_
   exact ⟨by rfl, by repeat ((with_reducible first | exact HB.out | refine below_set ?_ GE253.out))⟩
 · rw [if_neg c2] at H
   have c2b0 : decide (4000 < (l0.length : Int)) = false := decide_eq_false c2
   have c2b1 : decide (4000 < l0.length) = false := decide_eq_false (by omega)
   clear c2
   replace H := Option.bind_eq_some_iff.mp H
   obtain ⟨t254, A50, H⟩ := H
   replace H : (if t254 = true then (formeref01_Fit.l0 k l0 1) else (some (0, 0, 0, false, 1))) = some (r1, r2, r3, r4, r5) := H
   have A5 := Aside0.mk A50
   clear A50
   by_cases c6 : t254 = true
   · subst c6
     have H1 : (formeref01_Fit.l0 k l0 1) = some (r1, r2, r3, r4, r5) := by rw [if_pos rfl] at H; exact H
     clear H
     have H := H1
     clear H1
     have H' := Aside0.mk H
     clear H
     go_enter Try.func85, Try.ntmps85
     go_wp2_with (first | ((with_reducible refine gate_dst (N := 2) rfl ?_); refine box_event ?hg (N := 2) ?hd (cs := #[.int .i64 0, .int .i64 0, .int .i64 0]) (t := 55) ?hr ?_; (case hd => rfl); (case hg => rfl); (case hr => (go_simp; done)); intro gb253 hg w7 hbox hb; have BK253 := Aside0.mk (hbox); have GW253 := Aside0.mk ((by rw [hg]; exact (below_size HB.out) : w.heap.size ≤ gb253)); have GE253 := Aside0.mk ((by rw [hg]; exact (below_size HB.out) : w.heap.size ≤ gb253)); replace HB := Aside0.mk (below_step HB.out hb); clear hb hbox hg) | ((with_reducible refine gate_callee (f := 101) rfl ?_); refine goesL_ (some 14) rfl rfl Try.func101 (by kernel_rfl) rfl #[.slice A0 l0.length c0] rfl (by (try simp only [List.map_toArray, List.map_cons, List.map_nil]); rfl) ?_; (with_reducible refine (formeref01_Values.calls k _ _ l0 true _ ?side1 ?side2 A5.out).mono ?_); (case side1 => repeat (exact (Kd.C_below HR0.out HB.out))); (case side2 => exact HC0.out); rintro e w' ⟨rfl, ⟨nd, rfl⟩⟩; refine ⟨_, rfl, ?_⟩))
     go_loopg [6] k (fun kq v6 w' => ∃ (x6_1 : Int) (x254000_1 : Int) (x254001_1 : Int) (x254002_1 : Int), v6 = .int .i64 x6_1 ∧ Aside0 (formeref01_Fit.l0 kq l0 x6_1 = some (r1, r2, r3, r4, r5)) ∧ Aside0 (kq ≤ k) ∧ Aside0 (w'.heap[gb253]? = some (.cells #[.int .i64 x254000_1, .int .i64 x254001_1, .int .i64 x254002_1] 55 (0, 0))) ∧ Aside0 (Below w.heap.size w w'))
     case atStart => exact ⟨(1), (0), (0), (0), (by rfl), H', ⟨Nat.le_refl _⟩, ⟨by (with_reducible repeat (refine blk_drewN ?_ _)); exact BK253.out⟩, ⟨by repeat ((with_reducible first | exact HB.out | apply pw_below_drewN))⟩⟩
     case round =>
      clear H'
      try clear c2b0
      try clear c2b1
      obtain ⟨x6_1, x254000_1, x254001_1, x254002_1, rfl, HA, HK1, BK253, HB⟩ := hrel
      cases gk with
      | zero => exact absurd HA.out (by simp [formeref01_Fit.l0])
      | succ k1 =>
       have H := HA.out
       clear HA
       simp only [formeref01_Fit.l0] at H
       by_cases c8 : x6_1 ≤ 16
       · rw [if_pos c8] at H
         have c8b0 : decide (x6_1 ≤ 16) = true := decide_eq_true c8
         clear c8
         replace H := Option.bind_eq_some_iff.mp H
         obtain ⟨⟨t255, t256, t257, t258⟩, A90, H⟩ := H
         replace H : (if t258 = true then (some (t255, t256, t257, true, 0)) else (formeref01_Fit.l0 k1 l0 (wrap64 (x6_1 + 1)))) = some (r1, r2, r3, r4, r5) := H
         have A9 := Aside0.mk A90
         clear A90
         by_cases c10 : t258 = true
         · subst c10
           have H1 : (some (t255, t256, t257, true, 0)) = some (r1, r2, r3, r4, r5) := by rw [if_pos rfl] at H; exact H
           clear H
           have H := H1
           clear H1
           simp only [Option.some.injEq, Prod.mk.injEq] at H
           obtain ⟨rfl, rfl, rfl, rfl, rfl⟩ := H
           go_wp2_with (first | ((with_reducible refine gate_callee (f := 102) rfl ?_); refine goesL_ (some 25) rfl rfl Try.func102 (by kernel_rfl) rfl #[.slice A0 l0.length c0, .int .i64 x6_1] rfl (by (try simp only [List.map_toArray, List.map_cons, List.map_nil]); rfl) ?_; (with_reducible refine (formeref01_first.calls k1 _ _ l0 x6_1 t255 t256 t257 true _ ?side1 ?side2 A9.out).mono ?_); (case side1 => repeat (exact (Kd.C_below HR0.out HB.out))); (case side2 => exact HC0.out); rintro e w11 ⟨rfl, hb⟩; refine ⟨_, rfl, ?_⟩; replace BK253 := Aside0.mk (blk_below BK253.out hb); replace HB := Aside0.mk (below_step HB.out hb); (try clear hb)) | ((with_reducible refine gate_dst (N := 7) rfl ?_); refine box_event ?hg (N := 7) ?hd (cs := #[.int .i64 0, .int .i64 0, .int .i64 0]) (t := 55) ?hr ?_; (case hd => rfl); (case hg => rfl); (case hr => (go_simp; done)); intro gb259 hg w12 hbox hb; have BK259 := Aside0.mk (hbox); have GW259 := Aside0.mk ((by rw [hg]; exact (below_size HB.out) : w.heap.size ≤ gb259)); have GE259 := Aside0.mk ((by rw [hg]; exact (below_size HB.out) : w.heap.size ≤ gb259)); replace HB := Aside0.mk (below_step HB.out hb); have NB253_259 := Aside0.mk ((by rw [hg]; exact Nat.ne_of_lt (blk_lt BK253.out) : gb253 ≠ gb259)); have NB259_253 := Aside0.mk ((by rw [hg]; exact Nat.ne_of_gt (blk_lt BK253.out) : gb259 ≠ gb253)); replace BK253 := Aside0.mk (blk_below BK253.out hb); clear hb hbox hg; have hnb13 := NB259_253.out; have hnc13 := NB253_259.out; have hcz14_0 : w12.cell? ⟨gb259, 0, none⟩ = some (.int .i64 0) := (blk_cell BK259.out 0).trans rfl; have hcz14_1 : w12.cell? ⟨gb259, 1, none⟩ = some (.int .i64 0) := (blk_cell BK259.out 1).trans rfl; have hcz14_2 : w12.cell? ⟨gb259, 2, none⟩ = some (.int .i64 0) := (blk_cell BK259.out 2).trans rfl; have hfz14_0 := blk_frozen BK259.out 0; have hfz14_1 := blk_frozen BK259.out 1; have hfz14_2 := blk_frozen BK259.out 2; have hcz15_0 : w12.cell? ⟨gb253, 0, none⟩ = some (.int .i64 x254000_1) := (blk_cell BK253.out 0).trans rfl; have hcz15_1 : w12.cell? ⟨gb253, 1, none⟩ = some (.int .i64 x254001_1) := (blk_cell BK253.out 1).trans rfl; have hcz15_2 : w12.cell? ⟨gb253, 2, none⟩ = some (.int .i64 x254002_1) := (blk_cell BK253.out 2).trans rfl; have hfz15_0 := blk_frozen BK253.out 0; have hfz15_1 := blk_frozen BK253.out 1; have hfz15_2 := blk_frozen BK253.out 2))
           refine bodyPost_ret (results_ctt rfl _ _ gb253 55 #[.int .i64 t255, .int .i64 t256, .int .i64 t257] (0, 0) _ rfl (by (with_reducible repeat (fail)); refine blk_put (cs := #[.int .i64 t255, .int .i64 t256, .int .i64 x254002_1]) ?_ 2 _ rfl; (with_reducible repeat (fail)); refine blk_put (cs := #[.int .i64 t255, .int .i64 x254001_1, .int .i64 x254002_1]) ?_ 1 _ rfl; (with_reducible repeat (fail)); refine blk_put (cs := #[.int .i64 x254000_1, .int .i64 x254001_1, .int .i64 x254002_1]) ?_ 0 _ rfl; (with_reducible repeat (fail)); refine blk_far ?_ NB253_259.out _; (with_reducible repeat (fail)); refine blk_far ?_ NB253_259.out _; (with_reducible repeat (fail)); refine blk_far ?_ NB253_259.out _; (with_reducible repeat (fail)); exact BK253.out) Try.underlying55 rfl (by kernel_rfl)) rfl ?_
           exact ⟨by rfl, by repeat ((with_reducible first | exact HB.out | refine below_set ?_ GE253.out | refine below_set ?_ GE259.out))⟩
         · replace c10 := Bool.eq_false_iff.mpr c10
           subst c10
           have H1 : (formeref01_Fit.l0 k1 l0 (wrap64 (x6_1 + 1))) = some (r1, r2, r3, r4, r5) := by rw [if_neg (show ¬ (false = true) by decide)] at H; exact H
           clear H
           have H := H1
           clear H1
           have H' := Aside0.mk H
           clear H
           go_wp2_with (first | ((with_reducible refine gate_callee (f := 102) rfl ?_); refine goesL_ (some 25) rfl rfl Try.func102 (by kernel_rfl) rfl #[.slice A0 l0.length c0, .int .i64 x6_1] rfl (by (try simp only [List.map_toArray, List.map_cons, List.map_nil]); rfl) ?_; (with_reducible refine (formeref01_first.calls k1 _ _ l0 x6_1 t255 t256 t257 false _ ?side1 ?side2 A9.out).mono ?_); (case side1 => repeat (exact (Kd.C_below HR0.out HB.out))); (case side2 => exact HC0.out); rintro e w16 ⟨rfl, hb⟩; refine ⟨_, rfl, ?_⟩; replace BK253 := Aside0.mk (blk_below BK253.out hb); replace HB := Aside0.mk (below_step HB.out hb); (try clear hb)) | ((with_reducible refine gate_dst (N := 7) rfl ?_); refine box_event ?hg (N := 7) ?hd (cs := #[.int .i64 0, .int .i64 0, .int .i64 0]) (t := 55) ?hr ?_; (case hd => rfl); (case hg => rfl); (case hr => (go_simp; done)); intro gb259 hg w17 hbox hb; have BK259 := Aside0.mk (hbox); have GW259 := Aside0.mk ((by rw [hg]; exact (below_size HB.out) : w.heap.size ≤ gb259)); have GE259 := Aside0.mk ((by rw [hg]; exact (below_size HB.out) : w.heap.size ≤ gb259)); replace HB := Aside0.mk (below_step HB.out hb); have NB253_259 := Aside0.mk ((by rw [hg]; exact Nat.ne_of_lt (blk_lt BK253.out) : gb253 ≠ gb259)); have NB259_253 := Aside0.mk ((by rw [hg]; exact Nat.ne_of_gt (blk_lt BK253.out) : gb259 ≠ gb253)); replace BK253 := Aside0.mk (blk_below BK253.out hb); clear hb hbox hg; have hnb18 := NB259_253.out; have hnc18 := NB253_259.out; have hcz19_0 : w17.cell? ⟨gb259, 0, none⟩ = some (.int .i64 0) := (blk_cell BK259.out 0).trans rfl; have hcz19_1 : w17.cell? ⟨gb259, 1, none⟩ = some (.int .i64 0) := (blk_cell BK259.out 1).trans rfl; have hcz19_2 : w17.cell? ⟨gb259, 2, none⟩ = some (.int .i64 0) := (blk_cell BK259.out 2).trans rfl; have hfz19_0 := blk_frozen BK259.out 0; have hfz19_1 := blk_frozen BK259.out 1; have hfz19_2 := blk_frozen BK259.out 2))
           go_roundg k1
           case measure => have := HK1.out; omega
           case rel => exact ⟨(wrap64 (x6_1 + 1)), (x254000_1), (x254001_1), (x254002_1), (by rfl), H', ⟨by have := HK1.out; omega⟩, ⟨by (with_reducible repeat (fail)); refine blk_far ?_ NB253_259.out _; (with_reducible repeat (fail)); refine blk_far ?_ NB253_259.out _; (with_reducible repeat (fail)); refine blk_far ?_ NB253_259.out _; (with_reducible repeat (fail)); exact BK253.out⟩, ⟨by repeat ((with_reducible first | exact HB.out | refine below_set ?_ GE259.out))⟩⟩
       · rw [if_neg c8] at H
         have c8b0 : decide (x6_1 ≤ 16) = false := decide_eq_false c8
         clear c8
         simp only [Option.some.injEq, Prod.mk.injEq] at H
         obtain ⟨rfl, rfl, rfl, rfl, rfl⟩ := H
         have hcz20_0 : wr.cell? ⟨gb253, 0, none⟩ = some (.int .i64 x254000_1) := (blk_cell BK253.out 0).trans rfl
         have hcz20_1 : wr.cell? ⟨gb253, 1, none⟩ = some (.int .i64 x254001_1) := (blk_cell BK253.out 1).trans rfl
         have hcz20_2 : wr.cell? ⟨gb253, 2, none⟩ = some (.int .i64 x254002_1) := (blk_cell BK253.out 2).trans rfl
         have hfz20_0 := blk_frozen BK253.out 0
         have hfz20_1 := blk_frozen BK253.out 1
         have hfz20_2 := blk_frozen BK253.out 2
         go_wp2
         refine bodyPost_ret (results_ctt rfl _ _ gb253 55 #[.int .i64 0, .int .i64 0, .int .i64 0] (0, 0) _ rfl (by (with_reducible repeat (fail)); refine blk_put (cs := #[.int .i64 0, .int .i64 0, .int .i64 x254002_1]) ?_ 2 _ rfl; (with_reducible repeat (fail)); refine blk_put (cs := #[.int .i64 0, .int .i64 x254001_1, .int .i64 x254002_1]) ?_ 1 _ rfl; (with_reducible repeat (fail)); refine blk_put (cs := #[.int .i64 x254000_1, .int .i64 x254001_1, .int .i64 x254002_1]) ?_ 0 _ rfl; (with_reducible repeat (fail)); exact BK253.out) Try.underlying55 rfl (by kernel_rfl)) rfl ?_
         exact ⟨by rfl, by repeat ((with_reducible first | exact HB.out | refine below_set ?_ GE253.out))⟩
   · replace c6 := Bool.eq_false_iff.mpr c6
     subst c6
     have H1 : (some (0, 0, 0, false, 1)) = some (r1, r2, r3, r4, r5) := by rw [if_neg (show ¬ (false = true) by decide)] at H; exact H
     clear H
     have H := H1
     clear H1
     simp only [Option.some.injEq, Prod.mk.injEq] at H
     obtain ⟨rfl, rfl, rfl, rfl, rfl⟩ := H
     go_enter Try.func85, Try.ntmps85
     go_wp2_with (first | ((with_reducible refine gate_dst (N := 2) rfl ?_); refine box_event ?hg (N := 2) ?hd (cs := #[.int .i64 0, .int .i64 0, .int .i64 0]) (t := 55) ?hr ?_; (case hd => rfl); (case hg => rfl); (case hr => (go_simp; done)); intro gb253 hg w21 hbox hb; have BK253 := Aside0.mk (hbox); have GW253 := Aside0.mk ((by rw [hg]; exact (below_size HB.out) : w.heap.size ≤ gb253)); have GE253 := Aside0.mk ((by rw [hg]; exact (below_size HB.out) : w.heap.size ≤ gb253)); replace HB := Aside0.mk (below_step HB.out hb); clear hb hbox hg) | ((with_reducible refine gate_callee (f := 101) rfl ?_); refine goesL_ (some 14) rfl rfl Try.func101 (by kernel_rfl) rfl #[.slice A0 l0.length c0] rfl (by (try simp only [List.map_toArray, List.map_cons, List.map_nil]); rfl) ?_; (with_reducible refine (formeref01_Values.calls k _ _ l0 false _ ?side1 ?side2 A5.out).mono ?_); (case side1 => repeat (exact (Kd.C_below HR0.out HB.out))); (case side2 => exact HC0.out); rintro e w' ⟨rfl, ⟨nd, rfl⟩⟩; refine ⟨_, rfl, ?_⟩; (try (rw [drewN_self w21]; generalize hq_ : World.drewN w21 _ = w21; replace BK253 : Aside0 (w21.heap[gb253]? = some (.cells #[.int .i64 0, .int .i64 0, .int .i64 0] 55 (0, 0))) := ⟨by rw [← hq_]; exact (by (with_reducible repeat (refine blk_drewN ?_ _)); exact BK253.out)⟩; replace HB : Aside0 (Below w.heap.size w w21) := ⟨by rw [← hq_]; exact (by repeat ((with_reducible first | exact HB.out | apply pw_below_drewN)))⟩; clear hq_)); have hcz22_0 : w21.cell? ⟨gb253, 0, none⟩ = some (.int .i64 0) := (blk_cell BK253.out 0).trans rfl; have hcz22_1 : w21.cell? ⟨gb253, 1, none⟩ = some (.int .i64 0) := (blk_cell BK253.out 1).trans rfl; have hcz22_2 : w21.cell? ⟨gb253, 2, none⟩ = some (.int .i64 0) := (blk_cell BK253.out 2).trans rfl; have hfz22_0 := blk_frozen BK253.out 0; have hfz22_1 := blk_frozen BK253.out 1; have hfz22_2 := blk_frozen BK253.out 2))
     refine bodyPost_ret (results_ctt rfl _ _ gb253 55 #[.int .i64 0, .int .i64 0, .int .i64 0] (0, 0) _ rfl (by (with_reducible repeat (fail)); refine blk_put (cs := #[.int .i64 0, .int .i64 0, .int .i64 0]) ?_ 2 _ rfl; (with_reducible repeat (fail)); refine blk_put (cs := #[.int .i64 0, .int .i64 0, .int .i64 0]) ?_ 1 _ rfl; (with_reducible repeat (fail)); refine blk_put (cs := #[.int .i64 0, .int .i64 0, .int .i64 0]) ?_ 0 _ rfl; (with_reducible repeat (fail)); exact BK253.out) Try.underlying55 rfl (by kernel_rfl)) rfl ?_
     exact ⟨by rfl, by repeat ((with_reducible first | exact HB.out | refine below_set ?_ GE253.out))⟩
set_option maxHeartbeats 8000000 in
set_option maxRecDepth 100000 in
theorem formeref02_split.calls (k : Nat) (a0 : Int) (A1 : Option Addr) (c1 : Nat) (l1 : List Int) (r : List (S57)) (w : World) (hr1 : Kd.C (Kd.int .i64) w A1 l1.length l1) (hc1 : l1.length ≤ c1) (h : formeref02_split.f k a0 l1 = some r) :
  Calls Try.prog 69 #[.int .i64 a0, .slice A1 l1.length c1] w fun e w' => ∃ v0_ : Value, e = .returned (v0_) ∧ Kd.R k57 57 w' w.heap.size (fun _ => True) v0_ r ∧ Below w.heap.size w w' := by
 have hu55 := Try.underlying55
 have hu57 := Try.underlying57
 have HR1 := Aside0.mk hr1
 have HC1 := Aside0.mk hc1
 clear hr1 hc1
 have HB := Aside0.mk (Below.refl w.heap.size w)
 have H : (formeref02_split.l0 k a0 l1 ([] : List (S57)) 0) = some r := h
 clear h
 have H' := Aside0.mk H
 clear H
 go_enter Try.func69, Try.ntmps69
 go_wp2
 go_loopg [5, 6] k (fun kq v5 v6 w' => ∃ (x5_1 : List (S57)) (x6_1 : Int), v6 = .int .i64 x6_1 ∧ Aside0 (formeref02_split.l0 kq a0 l1 x5_1 x6_1 = some r) ∧ Aside0 (kq ≤ k) ∧ Aside0 (Kd.R k57 57 w' w.heap.size (fun _ => True) v5 x5_1) ∧ Aside0 (Below w.heap.size w w'))
 case atStart => exact ⟨(([] : List (S57))), (0), (by rfl), H', ⟨Nat.le_refl _⟩, ⟨by exact Kd.R_nil _ _ _ _ _⟩, ⟨by repeat ((with_reducible exact HB.out))⟩⟩
 case round =>
  clear H'
  obtain ⟨x5_1, x6_1, rfl, HA, HK1, HO_5, HB⟩ := hrel
  cases gk with
  | zero => exact absurd HA.out (by simp [formeref02_split.l0])
  | succ k1 =>
   have H := HA.out
   clear HA
   simp only [formeref02_split.l0] at H
   by_cases c3 : x6_1 < (l1.length : Int)
   · rw [if_pos c3] at H
     have c3b0 : decide (x6_1 < (l1.length : Int)) = true := decide_eq_true c3
     clear c3
     by_cases c4 : 0 ≤ x6_1
     · rw [if_pos c4] at H
       have c4b0 := eq_true c4
       have c4b1 : decide (0 ≤ x6_1) = true := decide_eq_true c4
       clear c4
       by_cases c5 : x6_1 ≤ (wrap64 (x6_1 + 1))
       · rw [if_pos c5] at H
         have c5b0 := eq_true c5
         have c5b1 : decide (x6_1 ≤ (wrap64 (x6_1 + 1))) = true := decide_eq_true c5
         by_cases c6 : (wrap64 (x6_1 + 1)) ≤ (l1.length : Int)
         · rw [if_pos c6] at H
           have c6b0 := eq_true c6
           have c6b1 : decide ((wrap64 (x6_1 + 1)) ≤ (l1.length : Int)) = true := decide_eq_true c6
           replace H := Option.bind_eq_some_iff.mp H
           obtain ⟨⟨t261, t262, t263, t264, t265⟩, A70, H⟩ := H
           replace H : (formeref02_split.l1 k1 a0 l1 x5_1 x6_1 (wrap64 (x6_1 + 1)) t261 t262 t263) = some r := H
           have A7 := Aside0.mk A70
           clear A70
           have H' := Aside0.mk H
           clear H
           obtain ⟨i08, hi08, _, hsz8, _⟩ := info_parts info3
           obtain ⟨A8, hcut8, hA8, hC8⟩ := print_mid_of (P := Try.prog) (Value.int .i64) 0 33 3 .i64 .i64 Try.underlying33 hi08 hsz8 A1 c1 l1 x6_1 (wrap64 (x6_1 + 1)) (of_decide_eq_true (by (with_reducible assumption))) (by omega) (of_decide_eq_true (by (with_reducible assumption))) HC1.out
           have HR260 := Aside0.mk (Kd.C_of_reads (h1 := fun _ => rfl) (hA8 _ (Kd.reads_of_C HR1.out)))
           have HC260 := Aside0.mk hC8
           clear hA8 hC8 hi08 hsz8
           go_wp2_with (first | ((with_reducible refine gate_callee (f := 85) rfl ?_); refine goesL_ (some 24) rfl rfl Try.func85 (by kernel_rfl) rfl #[.slice A8 ((l1.take ((wrap64 (x6_1 + 1)) : Int).toNat).drop (x6_1 : Int).toNat).length (c1 - x6_1.toNat)] rfl (by (try simp only [List.map_toArray, List.map_cons, List.map_nil]); (rw [show ((l1.take ((wrap64 (x6_1 + 1)) : Int).toNat).drop (x6_1 : Int).toNat).length = ((wrap64 (x6_1 + 1)).toNat - x6_1.toNat) from (by rw [List.length_drop, List.length_take]; have h_ : ((wrap64 (x6_1 + 1)) : Int) ≤ (l1.length : Int) := of_decide_eq_true (by (with_reducible assumption)); omega)] <;> rfl)) ?_; (with_reducible refine (formeref01_Fit.calls k1 _ _ ((l1.take ((wrap64 (x6_1 + 1)) : Int).toNat).drop (x6_1 : Int).toNat) t261 t262 t263 t264 t265 _ ?side1 ?side2 A7.out).mono ?_); (case side1 => repeat (exact (Kd.C_below HR260.out HB.out))); (case side2 => exact HC260.out); rintro e w9 ⟨rfl, hb⟩; refine ⟨_, rfl, ?_⟩; replace HO_5 := Aside0.mk (Kd.R_below HO_5.out hb); replace HB := Aside0.mk (below_step HB.out hb); (try clear hb)) | ((with_reducible refine gate_dst (N := 7) rfl ?_); refine box_event ?hg (N := 7) ?hd (cs := #[.int .i64 0, .int .i64 0, .int .i64 0]) (t := 55) ?hr ?_; (case hd => rfl); (case hg => rfl); (case hr => (go_simp; done)); intro gb266 hg w10 hbox hb; replace HO_5 := Aside0.mk (Kd.R_below HO_5.out hb); have BK266 := Aside0.mk (hbox); have GW266 := Aside0.mk ((by rw [hg]; exact (below_size HB.out) : w.heap.size ≤ gb266)); have GE266 := Aside0.mk ((by rw [hg]; exact (below_size HB.out) : w.heap.size ≤ gb266)); replace HB := Aside0.mk (below_step HB.out hb); clear hb hbox hg; have hcz11_0 : w10.cell? ⟨gb266, 0, none⟩ = some (.int .i64 0) := (blk_cell BK266.out 0).trans rfl; have hcz11_1 : w10.cell? ⟨gb266, 1, none⟩ = some (.int .i64 0) := (blk_cell BK266.out 1).trans rfl; have hcz11_2 : w10.cell? ⟨gb266, 2, none⟩ = some (.int .i64 0) := (blk_cell BK266.out 2).trans rfl; have hfz11_0 := blk_frozen BK266.out 0; have hfz11_1 := blk_frozen BK266.out 1; have hfz11_2 := blk_frozen BK266.out 2))
           go_loopg [10] k1 (fun kq v10 w' => ∃ (x10_2 : Int) (x267000_2 : Int) (x267001_2 : Int) (x267002_2 : Int), v10 = .int .i64 x10_2 ∧ Aside0 (formeref02_split.l1 kq a0 l1 x5_1 x6_1 x10_2 x267000_2 x267001_2 x267002_2 = some r) ∧ Aside0 (kq ≤ k1) ∧ Aside0 (Kd.R k57 57 w' w.heap.size (fun _ => True) u5 x5_1) ∧ Aside0 (w'.heap[gb266]? = some (.cells #[.int .i64 x267000_2, .int .i64 x267001_2, .int .i64 x267002_2] 55 (0, 0))) ∧ Aside0 (Below w.heap.size w w'))
           case atStart => exact ⟨(wrap64 (x6_1 + 1)), (t261), (t262), (t263), (by rfl), H', ⟨Nat.le_refl _⟩, ⟨by (with_reducible repeat (fail)); exact Kd.R_mono (Kd.R_far (p := ⟨gb266, 2, none⟩) (Kd.R_far (p := ⟨gb266, 1, none⟩) (Kd.R_far (p := ⟨gb266, 0, none⟩) (Kd.R_types HO_5.out BK266.out (by decide)) (fun _ hk => hk.2) (.int .i64 t261)) (fun _ hk => hk.2) (.int .i64 t262)) (fun _ hk => hk.2) (.int .i64 t263)) (fun _ hk => trivial)⟩, ⟨by (with_reducible repeat (fail)); refine blk_put (cs := #[.int .i64 t261, .int .i64 t262, .int .i64 0]) ?_ 2 _ rfl; (with_reducible repeat (fail)); refine blk_put (cs := #[.int .i64 t261, .int .i64 0, .int .i64 0]) ?_ 1 _ rfl; (with_reducible repeat (fail)); refine blk_put (cs := #[.int .i64 0, .int .i64 0, .int .i64 0]) ?_ 0 _ rfl; (with_reducible repeat (fail)); exact BK266.out⟩, ⟨by repeat ((with_reducible first | exact HB.out | refine below_set ?_ GE266.out))⟩⟩
           case round =>
            clear H'
            try clear c3b0
            try clear c4b0
            try clear c4b1
            try clear c5
            try clear c5b0
            try clear c5b1
            try clear c6
            try clear c6b0
            try clear c6b1
            try clear hcz11_0
            try clear hcz11_1
            try clear hcz11_2
            try clear hfz11_0
            try clear hfz11_1
            try clear hfz11_2
            obtain ⟨x10_2, x267000_2, x267001_2, x267002_2, rfl, HA, HK2, HO_5, BK266, HB⟩ := hrel
            cases gk with
            | zero => exact absurd HA.out (by simp [formeref02_split.l1])
            | succ k2 =>
             have H := HA.out
             clear HA
             simp only [formeref02_split.l1] at H
             by_cases c12 : x10_2 < (l1.length : Int)
             · rw [if_pos c12] at H
               have c12b0 : decide (x10_2 < (l1.length : Int)) = true := decide_eq_true c12
               clear c12
               by_cases c13 : 0 ≤ x6_1
               · rw [if_pos c13] at H
                 have c13b0 := eq_true c13
                 have c13b1 : decide (0 ≤ x6_1) = true := decide_eq_true c13
                 clear c13
                 by_cases c14 : x6_1 ≤ (wrap64 (x10_2 + 1))
                 · rw [if_pos c14] at H
                   have c14b0 := eq_true c14
                   have c14b1 : decide (x6_1 ≤ (wrap64 (x10_2 + 1))) = true := decide_eq_true c14
                   by_cases c15 : (wrap64 (x10_2 + 1)) ≤ (l1.length : Int)
                   · rw [if_pos c15] at H
                     have c15b0 := eq_true c15
                     have c15b1 : decide ((wrap64 (x10_2 + 1)) ≤ (l1.length : Int)) = true := decide_eq_true c15
                     replace H := Option.bind_eq_some_iff.mp H
                     obtain ⟨⟨t268, t269, t270, t271, t272⟩, A160, H⟩ := H
                     replace H : (if t271 = true then (formeref02_split.l1 k2 a0 l1 x5_1 x6_1 (wrap64 (x10_2 + 1)) t268 t269 t270) else (if x5_1.length < 3518437208883 then (formeref02_split.l0 k2 a0 l1 (x5_1 ++ [(⟨wrap64 (a0 + x6_1), wrap64 (a0 + x10_2), (⟨x267000_2, x267001_2, x267002_2⟩ : S55)⟩ : S57)]) x10_2) else (none))) = some r := H
                     have A16 := Aside0.mk A160
                     clear A160
                     by_cases c17 : t271 = true
                     · subst c17
                       have H1 : (formeref02_split.l1 k2 a0 l1 x5_1 x6_1 (wrap64 (x10_2 + 1)) t268 t269 t270) = some r := by rw [if_pos rfl] at H; exact H
                       clear H
                       have H := H1
                       clear H1
                       have H' := Aside0.mk H
                       clear H
                       obtain ⟨i018, hi018, _, hsz18, _⟩ := info_parts info3
                       obtain ⟨A18, hcut18, hA18, hC18⟩ := print_mid_of (P := Try.prog) (Value.int .i64) 0 33 3 .i64 .i64 Try.underlying33 hi018 hsz18 A1 c1 l1 x6_1 (wrap64 (x10_2 + 1)) (of_decide_eq_true (by (with_reducible assumption))) (by omega) (of_decide_eq_true (by (with_reducible assumption))) HC1.out
                       have HR267 := Aside0.mk (Kd.C_of_reads (h1 := fun _ => rfl) (hA18 _ (Kd.reads_of_C HR1.out)))
                       have HC267 := Aside0.mk hC18
                       clear hA18 hC18 hi018 hsz18
                       go_wp2_with (first | ((with_reducible refine gate_callee (f := 85) rfl ?_); refine goesL_ (some 40) rfl rfl Try.func85 (by kernel_rfl) rfl #[.slice A18 ((l1.take ((wrap64 (x10_2 + 1)) : Int).toNat).drop (x6_1 : Int).toNat).length (c1 - x6_1.toNat)] rfl (by (try simp only [List.map_toArray, List.map_cons, List.map_nil]); (rw [show ((l1.take ((wrap64 (x10_2 + 1)) : Int).toNat).drop (x6_1 : Int).toNat).length = ((wrap64 (x10_2 + 1)).toNat - x6_1.toNat) from (by rw [List.length_drop, List.length_take]; have h_ : ((wrap64 (x10_2 + 1)) : Int) ≤ (l1.length : Int) := of_decide_eq_true (by (with_reducible assumption)); omega)] <;> rfl)) ?_; (with_reducible refine (formeref01_Fit.calls k2 _ _ ((l1.take ((wrap64 (x10_2 + 1)) : Int).toNat).drop (x6_1 : Int).toNat) t268 t269 t270 true t272 _ ?side1 ?side2 A16.out).mono ?_); (case side1 => repeat (exact (Kd.C_below HR267.out HB.out))); (case side2 => exact HC267.out); rintro e w19 ⟨rfl, hb⟩; refine ⟨_, rfl, ?_⟩; replace HO_5 := Aside0.mk (Kd.R_below HO_5.out hb); replace BK266 := Aside0.mk (blk_below BK266.out hb); replace HB := Aside0.mk (below_step HB.out hb); (try clear hb)) | ((with_reducible refine gate_dst (N := 11) rfl ?_); refine box_event ?hg (N := 11) ?hd (cs := #[.int .i64 0, .int .i64 0, .int .i64 0]) (t := 55) ?hr ?_; (case hd => rfl); (case hg => rfl); (case hr => (go_simp; done)); intro gb273 hg w20 hbox hb; replace HO_5 := Aside0.mk (Kd.R_below HO_5.out hb); have BK273 := Aside0.mk (hbox); have GW273 := Aside0.mk ((by rw [hg]; exact (below_size HB.out) : w.heap.size ≤ gb273)); have GE273 := Aside0.mk ((by rw [hg]; exact (below_size HB.out) : w.heap.size ≤ gb273)); replace HB := Aside0.mk (below_step HB.out hb); have NB266_273 := Aside0.mk ((by rw [hg]; exact Nat.ne_of_lt (blk_lt BK266.out) : gb266 ≠ gb273)); have NB273_266 := Aside0.mk ((by rw [hg]; exact Nat.ne_of_gt (blk_lt BK266.out) : gb273 ≠ gb266)); replace BK266 := Aside0.mk (blk_below BK266.out hb); clear hb hbox hg; have hnb21 := NB273_266.out; have hnc21 := NB266_273.out; have hcz22_0 : w20.cell? ⟨gb273, 0, none⟩ = some (.int .i64 0) := (blk_cell BK273.out 0).trans rfl; have hcz22_1 : w20.cell? ⟨gb273, 1, none⟩ = some (.int .i64 0) := (blk_cell BK273.out 1).trans rfl; have hcz22_2 : w20.cell? ⟨gb273, 2, none⟩ = some (.int .i64 0) := (blk_cell BK273.out 2).trans rfl; have hfz22_0 := blk_frozen BK273.out 0; have hfz22_1 := blk_frozen BK273.out 1; have hfz22_2 := blk_frozen BK273.out 2; have hcz23_0 : w20.cell? ⟨gb266, 0, none⟩ = some (.int .i64 x267000_2) := (blk_cell BK266.out 0).trans rfl; have hcz23_1 : w20.cell? ⟨gb266, 1, none⟩ = some (.int .i64 x267001_2) := (blk_cell BK266.out 1).trans rfl; have hcz23_2 : w20.cell? ⟨gb266, 2, none⟩ = some (.int .i64 x267002_2) := (blk_cell BK266.out 2).trans rfl; have hfz23_0 := blk_frozen BK266.out 0; have hfz23_1 := blk_frozen BK266.out 1; have hfz23_2 := blk_frozen BK266.out 2))
                       go_roundg k2
                       case measure => have := HK1.out; have := HK2.out; omega
                       case rel => exact ⟨(wrap64 (x10_2 + 1)), (t268), (t269), (t270), (by rfl), H', ⟨by have := HK1.out; have := HK2.out; omega⟩, ⟨by (with_reducible repeat (fail)); exact Kd.R_mono (Kd.R_far (p := ⟨gb266, 2, none⟩) (Kd.R_far (p := ⟨gb266, 1, none⟩) (Kd.R_far (p := ⟨gb266, 0, none⟩) (Kd.R_far (p := ⟨gb273, 2, none⟩) (Kd.R_far (p := ⟨gb273, 1, none⟩) (Kd.R_far (p := ⟨gb273, 0, none⟩) (Kd.R_types (Kd.R_types HO_5.out BK273.out (by decide)) BK266.out (by decide)) (fun _ hk => hk.1.2) (.int .i64 t268)) (fun _ hk => hk.1.2) (.int .i64 t269)) (fun _ hk => hk.1.2) (.int .i64 t270)) (fun _ hk => hk.2) (.int .i64 t268)) (fun _ hk => hk.2) (.int .i64 t269)) (fun _ hk => hk.2) (.int .i64 t270)) (fun _ hk => trivial)⟩, ⟨by (with_reducible repeat (fail)); refine blk_put (cs := #[.int .i64 t268, .int .i64 t269, .int .i64 x267002_2]) ?_ 2 _ rfl; (with_reducible repeat (fail)); refine blk_put (cs := #[.int .i64 t268, .int .i64 x267001_2, .int .i64 x267002_2]) ?_ 1 _ rfl; (with_reducible repeat (fail)); refine blk_put (cs := #[.int .i64 x267000_2, .int .i64 x267001_2, .int .i64 x267002_2]) ?_ 0 _ rfl; (with_reducible repeat (fail)); refine blk_far ?_ NB266_273.out _; (with_reducible repeat (fail)); refine blk_far ?_ NB266_273.out _; (with_reducible repeat (fail)); refine blk_far ?_ NB266_273.out _; (with_reducible repeat (fail)); exact BK266.out⟩, ⟨by repeat ((with_reducible first | exact HB.out | refine below_set ?_ GE266.out | refine below_set ?_ GE273.out))⟩⟩
                     · replace c17 := Bool.eq_false_iff.mpr c17
                       subst c17
                       have H1 : (if x5_1.length < 3518437208883 then (formeref02_split.l0 k2 a0 l1 (x5_1 ++ [(⟨wrap64 (a0 + x6_1), wrap64 (a0 + x10_2), (⟨x267000_2, x267001_2, x267002_2⟩ : S55)⟩ : S57)]) x10_2) else (none)) = some r := by rw [if_neg (show ¬ (false = true) by decide)] at H; exact H
                       clear H
                       have H := H1
                       clear H1
                       by_cases c24 : x5_1.length < 3518437208883
                       · rw [if_pos c24] at H
                         have LMc24 := Aside0.mk c24
                         clear c24
                         obtain ⟨y274, hy274⟩ : ∃ y_ : List (S57), y_ = (x5_1 ++ [(⟨wrap64 (a0 + x6_1), wrap64 (a0 + x10_2), (⟨x267000_2, x267001_2, x267002_2⟩ : S55)⟩ : S57)]) := ⟨_, rfl⟩
                         replace H : (formeref02_split.l0 k2 a0 l1 y274 x10_2) = some r := by (rw [hy274]; with_reducible exact H)
                         have Ny274 := Aside0.mk hy274
                         clear hy274
                         have H' := Aside0.mk H
                         clear H
                         obtain ⟨i025, hi025, _, hsz25, _⟩ := info_parts info3
                         obtain ⟨A25, hcut25, hA25, hC25⟩ := print_mid_of (P := Try.prog) (Value.int .i64) 0 33 3 .i64 .i64 Try.underlying33 hi025 hsz25 A1 c1 l1 x6_1 (wrap64 (x10_2 + 1)) (of_decide_eq_true (by (with_reducible assumption))) (by omega) (of_decide_eq_true (by (with_reducible assumption))) HC1.out
                         have HR267 := Aside0.mk (Kd.C_of_reads (h1 := fun _ => rfl) (hA25 _ (Kd.reads_of_C HR1.out)))
                         have HC267 := Aside0.mk hC25
                         clear hA25 hC25 hi025 hsz25
                         go_wp2_with (first | ((with_reducible refine gate_callee (f := 85) rfl ?_); refine goesL_ (some 40) rfl rfl Try.func85 (by kernel_rfl) rfl #[.slice A25 ((l1.take ((wrap64 (x10_2 + 1)) : Int).toNat).drop (x6_1 : Int).toNat).length (c1 - x6_1.toNat)] rfl (by (try simp only [List.map_toArray, List.map_cons, List.map_nil]); (rw [show ((l1.take ((wrap64 (x10_2 + 1)) : Int).toNat).drop (x6_1 : Int).toNat).length = ((wrap64 (x10_2 + 1)).toNat - x6_1.toNat) from (by rw [List.length_drop, List.length_take]; have h_ : ((wrap64 (x10_2 + 1)) : Int) ≤ (l1.length : Int) := of_decide_eq_true (by (with_reducible assumption)); omega)] <;> rfl)) ?_; (with_reducible refine (formeref01_Fit.calls k2 _ _ ((l1.take ((wrap64 (x10_2 + 1)) : Int).toNat).drop (x6_1 : Int).toNat) t268 t269 t270 false t272 _ ?side1 ?side2 A16.out).mono ?_); (case side1 => repeat (exact (Kd.C_below HR267.out HB.out))); (case side2 => exact HC267.out); rintro e w26 ⟨rfl, hb⟩; refine ⟨_, rfl, ?_⟩; replace HO_5 := Aside0.mk (Kd.R_below HO_5.out hb); replace BK266 := Aside0.mk (blk_below BK266.out hb); replace HB := Aside0.mk (below_step HB.out hb); (try clear hb)) | ((with_reducible refine gate_dst (N := 11) rfl ?_); refine box_event ?hg (N := 11) ?hd (cs := #[.int .i64 0, .int .i64 0, .int .i64 0]) (t := 55) ?hr ?_; (case hd => rfl); (case hg => rfl); (case hr => (go_simp; done)); intro gb273 hg w27 hbox hb; replace HO_5 := Aside0.mk (Kd.R_below HO_5.out hb); have BK273 := Aside0.mk (hbox); have GW273 := Aside0.mk ((by rw [hg]; exact (below_size HB.out) : w.heap.size ≤ gb273)); have GE273 := Aside0.mk ((by rw [hg]; exact (below_size HB.out) : w.heap.size ≤ gb273)); replace HB := Aside0.mk (below_step HB.out hb); have NB266_273 := Aside0.mk ((by rw [hg]; exact Nat.ne_of_lt (blk_lt BK266.out) : gb266 ≠ gb273)); have NB273_266 := Aside0.mk ((by rw [hg]; exact Nat.ne_of_gt (blk_lt BK266.out) : gb273 ≠ gb266)); replace BK266 := Aside0.mk (blk_below BK266.out hb); clear hb hbox hg; have hnb28 := NB273_266.out; have hnc28 := NB266_273.out; have hcz29_0 : w27.cell? ⟨gb273, 0, none⟩ = some (.int .i64 0) := (blk_cell BK273.out 0).trans rfl; have hcz29_1 : w27.cell? ⟨gb273, 1, none⟩ = some (.int .i64 0) := (blk_cell BK273.out 1).trans rfl; have hcz29_2 : w27.cell? ⟨gb273, 2, none⟩ = some (.int .i64 0) := (blk_cell BK273.out 2).trans rfl; have hfz29_0 := blk_frozen BK273.out 0; have hfz29_1 := blk_frozen BK273.out 1; have hfz29_2 := blk_frozen BK273.out 2; have hcz30_0 : w27.cell? ⟨gb266, 0, none⟩ = some (.int .i64 x267000_2) := (blk_cell BK266.out 0).trans rfl; have hcz30_1 : w27.cell? ⟨gb266, 1, none⟩ = some (.int .i64 x267001_2) := (blk_cell BK266.out 1).trans rfl; have hcz30_2 : w27.cell? ⟨gb266, 2, none⟩ = some (.int .i64 x267002_2) := (blk_cell BK266.out 2).trans rfl; have hfz30_0 := blk_frozen BK266.out 0; have hfz30_1 := blk_frozen BK266.out 1; have hfz30_2 := blk_frozen BK266.out 2) | ((with_reducible refine gate_builtin (b := .append) (xs := #[.tmp 49, .tmp 58]) rfl ?_); at_builtin; refine Kd.R_append k57 (w0 := w) w.heap.size rfl (.tmp 49) (.tmp 58) 38 57 (.agg #[(.int .i64 0), (.int .i64 0), (.int .i64 0), (.int .i64 0), (.int .i64 0)]) 40 rfl Try.underlying38 info57 rfl (by decide) (by omega) u5 x5_1 (⟨wrap64 (a0 + x6_1), wrap64 (a0 + x10_2), (⟨x267000_2, x267001_2, x267002_2⟩ : S55)⟩ : S57) [.int .i64 (wrap64 (a0 + x6_1)), .int .i64 (wrap64 (a0 + x10_2)), .int .i64 x267000_2, .int .i64 x267001_2, .int .i64 x267002_2] (fun _ => True) (fun _ => False) rfl (by (go_simp; done)) ?aP (fun _ hk => hk.elim) ?aF ?aO ?aB ?aS ?aL ?_; (case aP => exact k57_mkM _ _ _ (⟨wrap64 (a0 + x6_1), wrap64 (a0 + x10_2), (⟨x267000_2, x267001_2, x267002_2⟩ : S55)⟩ : S57)); (case aB => exact (by repeat ((with_reducible first | exact HB.out | refine below_set ?_ GE273.out)))); (case aF => exact (fun _ _ => trivial)); (case aO => exact (by (with_reducible repeat (fail)); exact Kd.R_mono (Kd.R_far (p := ⟨gb273, 2, none⟩) (Kd.R_far (p := ⟨gb273, 1, none⟩) (Kd.R_far (p := ⟨gb273, 0, none⟩) (Kd.R_types HO_5.out BK273.out (by decide)) (fun _ hk => hk.2) (.int .i64 t268)) (fun _ hk => hk.2) (.int .i64 t269)) (fun _ hk => hk.2) (.int .i64 t270)) (fun _ hk => trivial))); (case aS => exact (below_size (by repeat ((with_reducible first | exact HB.out | refine below_set ?_ GE273.out))))); (case aL => have := LMc24.out; omega); intro v275 w31 ho hb hg hat; rw [← Ny274.out] at ho; replace BK266 := Aside0.mk (blk_grown (g := gb266) (o := .cells #[.int .i64 x267000_2, .int .i64 x267001_2, .int .i64 x267002_2] 55 (0, 0)) (by (with_reducible repeat (fail)); refine blk_far ?_ NB266_273.out _; (with_reducible repeat (fail)); refine blk_far ?_ NB266_273.out _; (with_reducible repeat (fail)); refine blk_far ?_ NB266_273.out _; (with_reducible repeat (fail)); exact BK266.out) hg (Kd.R_ne HO_5.out BK266.out (by decide))); replace BK273 := Aside0.mk (blk_grown (g := gb273) (o := .cells #[.int .i64 t268, .int .i64 t269, .int .i64 t270] 55 (0, 0)) (by (with_reducible repeat (fail)); refine blk_put (cs := #[.int .i64 t268, .int .i64 t269, .int .i64 0]) ?_ 2 _ rfl; (with_reducible repeat (fail)); refine blk_put (cs := #[.int .i64 t268, .int .i64 0, .int .i64 0]) ?_ 1 _ rfl; (with_reducible repeat (fail)); refine blk_put (cs := #[.int .i64 0, .int .i64 0, .int .i64 0]) ?_ 0 _ rfl; (with_reducible repeat (fail)); exact BK273.out) hg (Kd.R_ne HO_5.out BK273.out (by decide))); replace HB := Aside0.mk (hb); have HO276 := Aside0.mk (ho); clear HO_5; clear ho hb hg hat))
                         go_roundg k2
                         case measure => have := HK1.out; have := HK2.out; omega
                         case rel => exact ⟨(y274), (x10_2), (by rfl), H', ⟨by have := HK1.out; have := HK2.out; omega⟩, ⟨by (with_reducible repeat (fail)); exact HO276.out⟩, ⟨by repeat ((with_reducible exact HB.out))⟩⟩
                       · rw [if_neg c24] at H
                         exact absurd H (by simp)
                   · rw [if_neg c15] at H
                     exact absurd H (by simp)
                 · rw [if_neg c14] at H
                   exact absurd H (by simp)
               · rw [if_neg c13] at H
                 exact absurd H (by simp)
             · rw [if_neg c12] at H
               have c12b0 : decide (x10_2 < (l1.length : Int)) = false := decide_eq_false c12
               clear c12
               by_cases c32 : x5_1.length < 3518437208883
               · rw [if_pos c32] at H
                 have LMc32 := Aside0.mk c32
                 clear c32
                 obtain ⟨y277, hy277⟩ : ∃ y_ : List (S57), y_ = (x5_1 ++ [(⟨wrap64 (a0 + x6_1), wrap64 (a0 + x10_2), (⟨x267000_2, x267001_2, x267002_2⟩ : S55)⟩ : S57)]) := ⟨_, rfl⟩
                 replace H : (formeref02_split.l0 k2 a0 l1 y277 x10_2) = some r := by (rw [hy277]; with_reducible exact H)
                 have Ny277 := Aside0.mk hy277
                 clear hy277
                 have H' := Aside0.mk H
                 clear H
                 have hcz33_0 : wr.cell? ⟨gb266, 0, none⟩ = some (.int .i64 x267000_2) := (blk_cell BK266.out 0).trans rfl
                 have hcz33_1 : wr.cell? ⟨gb266, 1, none⟩ = some (.int .i64 x267001_2) := (blk_cell BK266.out 1).trans rfl
                 have hcz33_2 : wr.cell? ⟨gb266, 2, none⟩ = some (.int .i64 x267002_2) := (blk_cell BK266.out 2).trans rfl
                 have hfz33_0 := blk_frozen BK266.out 0
                 have hfz33_1 := blk_frozen BK266.out 1
                 have hfz33_2 := blk_frozen BK266.out 2
                 go_wp2_with (((with_reducible refine gate_builtin (b := .append) (xs := #[.tmp 49, .tmp 58]) rfl ?_); at_builtin; refine Kd.R_append k57 (w0 := w) w.heap.size rfl (.tmp 49) (.tmp 58) 38 57 (.agg #[(.int .i64 0), (.int .i64 0), (.int .i64 0), (.int .i64 0), (.int .i64 0)]) 40 rfl Try.underlying38 info57 rfl (by decide) (by omega) u5 x5_1 (⟨wrap64 (a0 + x6_1), wrap64 (a0 + x10_2), (⟨x267000_2, x267001_2, x267002_2⟩ : S55)⟩ : S57) [.int .i64 (wrap64 (a0 + x6_1)), .int .i64 (wrap64 (a0 + x10_2)), .int .i64 x267000_2, .int .i64 x267001_2, .int .i64 x267002_2] (fun _ => True) (fun _ => False) rfl rfl ?aP (fun _ hk => hk.elim) ?aF ?aO ?aB ?aS ?aL ?_; (case aP => exact k57_mkM _ _ _ (⟨wrap64 (a0 + x6_1), wrap64 (a0 + x10_2), (⟨x267000_2, x267001_2, x267002_2⟩ : S55)⟩ : S57)); (case aB => exact HB.out); (case aF => exact (fun _ _ => trivial)); (case aO => exact HO_5.out); (case aS => exact (below_size HB.out)); (case aL => have := LMc32.out; omega); intro v278 w34 ho hb hg hat; rw [← Ny277.out] at ho; replace BK266 := Aside0.mk (blk_grown BK266.out hg (Kd.R_ne HO_5.out BK266.out (by decide))); replace HB := Aside0.mk (hb); have HO279 := Aside0.mk (ho); clear HO_5; clear ho hb hg hat))
                 go_roundg k2
                 case measure => have := HK1.out; have := HK2.out; omega
                 case rel => exact ⟨(y277), (x10_2), (by rfl), H', ⟨by have := HK1.out; have := HK2.out; omega⟩, ⟨by (with_reducible repeat (fail)); exact HO279.out⟩, ⟨by repeat ((with_reducible exact HB.out))⟩⟩
               · rw [if_neg c32] at H
                 exact absurd H (by simp)
         · rw [if_neg c6] at H
           exact absurd H (by simp)
       · rw [if_neg c5] at H
         exact absurd H (by simp)
     · rw [if_neg c4] at H
       exact absurd H (by simp)
   · rw [if_neg c3] at H
     have c3b0 : decide (x6_1 < (l1.length : Int)) = false := decide_eq_false c3
     clear c3
     obtain rfl := Option.some.inj H
     go_wp2
     go_ret
     exact ⟨_, by rfl, by (with_reducible repeat (fail)); exact HO_5.out, by repeat ((with_reducible exact HB.out))⟩
end
section
set_option maxHeartbeats 8000000 in
set_option maxRecDepth 100000 in
theorem formeref02_Make.calls (k : Nat) (a0 : Int) (A1 : Option Addr) (c1 : Nat) (l1 : List Int) (r1 : List (S57)) (r2 : Int) (w : World) (hr1 : Kd.C (Kd.int .i64) w A1 l1.length l1) (hc1 : l1.length ≤ c1) (h : formeref02_Make.f k a0 l1 = some (r1, r2)) :
  Calls Try.prog 39 #[.int .i64 a0, .slice A1 l1.length c1] w fun e w' => ∃ v0_ : Value, e = .returned (.tuple #[v0_, .int .i64 r2]) ∧ Kd.R k57 57 w' w.heap.size (fun _ => True) v0_ r1 ∧ Below w.heap.size w w' := by
 have HR1 := Aside0.mk hr1
 have HC1 := Aside0.mk hc1
 clear hr1 hc1
 have HB := Aside0.mk (Below.refl w.heap.size w)
 have H : (if (l1.length : Int) > 4000 then (some (([] : List (S57)), 2)) else (if (l1.length : Int) = 0 then (formeref02_Make.j0 k a0 l1 true) else (if a0 < 0 then (formeref02_Make.j0 k a0 l1 true) else (if a0 > 4001 then (formeref02_Make.j0 k a0 l1 true) else (formeref02_Make.j0 k a0 l1 (decide ((wrap64 (a0 + (l1.length : Int))) > 4001))))))) = some (r1, r2) := h
 clear h
 by_cases c3 : (l1.length : Int) > 4000
 · rw [if_pos c3] at H
   have c3b0 : decide (4000 < (l1.length : Int)) = true := decide_eq_true c3
   have c3b1 : decide (4000 < l1.length) = true := decide_eq_true (by omega)
   clear c3
   simp only [Option.some.injEq, Prod.mk.injEq] at H
   obtain ⟨rfl, rfl⟩ := H
   go_enter Try.func39, Try.ntmps39
   go_wp2
   go_ret2
   exact ⟨_, by rfl, by exact Kd.R_nil _ _ _ _ _, by repeat ((with_reducible exact HB.out))⟩
 · rw [if_neg c3] at H
   have c3b0 : decide (4000 < (l1.length : Int)) = false := decide_eq_false c3
   have c3b1 : decide (4000 < l1.length) = false := decide_eq_false (by omega)
   clear c3
   have HC4 := Aside0.mk H
   clear H
   go_enter Try.func39, Try.ntmps39
   go_upto_region 3 with (fail)
   go_cut [28] (fun v28 wc => ∃ (kq : Nat) (x28_3 : Bool), v28 = .bool x28_3 ∧ Aside0 (formeref02_Make.j0 kq a0 l1 x28_3 = some (r1, r2)) ∧ Aside0 (kq ≤ k) ∧ Aside0 (Below w.heap.size w wc))
   case first =>
    have H := HC4.out
    clear HC4
    by_cases c5 : (l1.length : Int) = 0
    · rw [if_pos c5] at H
      have c5b0 : ((l1.length : Int) == 0) = true := beq_iff_eq.mpr c5
      have c5b1 : ((l1.length : Int) != 0) = false := bne_eq_false_iff_eq.mpr c5
      clear c5
      have H' := Aside0.mk H
      clear H
      go_wp2
      go_meet
      case rel => exact ⟨_, (true), (by rfl), H', ⟨by omega⟩, ⟨by repeat ((with_reducible exact HB.out))⟩⟩
    · rw [if_neg c5] at H
      have c5b0 : ((l1.length : Int) == 0) = false := beq_eq_false_iff_ne.mpr c5
      have c5b1 : ((l1.length : Int) != 0) = true := bne_iff_ne.mpr c5
      have c5b2 : ¬ (l1 = []) := fun h_ => c5 (by rw [h_]; rfl)
      by_cases c6 : a0 < 0
      · rw [if_pos c6] at H
        have c6b0 : decide (a0 < 0) = true := decide_eq_true c6
        clear c6
        have H' := Aside0.mk H
        clear H
        go_wp2
        go_meet
        case rel => exact ⟨_, (true), (by rfl), H', ⟨by omega⟩, ⟨by repeat ((with_reducible exact HB.out))⟩⟩
      · rw [if_neg c6] at H
        have c6b0 : decide (a0 < 0) = false := decide_eq_false c6
        clear c6
        by_cases c7 : a0 > 4001
        · rw [if_pos c7] at H
          have c7b0 : decide (4001 < a0) = true := decide_eq_true c7
          clear c7
          have H' := Aside0.mk H
          clear H
          go_wp2
          go_meet
          case rel => exact ⟨_, (true), (by rfl), H', ⟨by omega⟩, ⟨by repeat ((with_reducible exact HB.out))⟩⟩
        · rw [if_neg c7] at H
          have c7b0 : decide (4001 < a0) = false := decide_eq_false c7
          clear c7
          have H' := Aside0.mk H
          clear H
          go_wp2
          go_meet
          case rel => exact ⟨_, (decide ((wrap64 (a0 + (l1.length : Int))) > 4001)), (by rfl), H', ⟨by omega⟩, ⟨by repeat ((with_reducible exact HB.out))⟩⟩
   case rest =>
    clear HC4
    try clear c3b0
    try clear c3b1
    obtain ⟨kq, x28_3, rfl, HA, HJ3, HB⟩ := hcut
    cases kq with
    | zero => exact absurd HA.out (by simp [formeref02_Make.j0])
    | succ kj3 =>
     have H := HA.out
     clear HA
     simp only [formeref02_Make.j0] at H
     by_cases c8 : x28_3 = true
     · subst c8
       have H1 : (some (([] : List (S57)), 1)) = some (r1, r2) := by rw [if_pos rfl] at H; exact H
       clear H
       have H := H1
       clear H1
       simp only [Option.some.injEq, Prod.mk.injEq] at H
       obtain ⟨rfl, rfl⟩ := H
       go_wp2
       go_ret2
       exact ⟨_, by rfl, by exact Kd.R_nil _ _ _ _ _, by repeat ((with_reducible exact HB.out))⟩
     · replace c8 := Bool.eq_false_iff.mpr c8
       subst c8
       have H1 : (formeref02_Make.l0 kj3 a0 l1 0) = some (r1, r2) := by rw [if_neg (show ¬ (false = true) by decide)] at H; exact H
       clear H
       have H := H1
       clear H1
       have H' := Aside0.mk H
       clear H
       go_wp2
       go_loopg [6] kj3 (fun kq v6 w' => ∃ (x6_2 : Int), v6 = .int .i64 x6_2 ∧ Aside0 (formeref02_Make.l0 kq a0 l1 x6_2 = some (r1, r2)) ∧ Aside0 (kq ≤ kj3) ∧ Aside0 (Below w.heap.size w w'))
       case atStart => exact ⟨(0), (by rfl), H', ⟨Nat.le_refl _⟩, ⟨by repeat ((with_reducible exact HB.out))⟩⟩
       case round =>
        clear H'
        obtain ⟨x6_2, rfl, HA, HK2, HB⟩ := hrel
        cases gk with
        | zero => exact absurd HA.out (by simp [formeref02_Make.l0])
        | succ k2 =>
         have H := HA.out
         clear HA
         simp only [formeref02_Make.l0] at H
         by_cases c9 : x6_2 < (l1.length : Int)
         · rw [if_pos c9] at H
           have c9b0 : decide (x6_2 < (l1.length : Int)) = true := decide_eq_true c9
           clear c9
           by_cases c10 : 0 ≤ x6_2
           · rw [if_pos c10] at H
             have c10b0 : decide (0 ≤ x6_2) = true := decide_eq_true c10
             clear c10
             replace H := Option.bind_eq_some_iff.mp H
             obtain ⟨t281, A110, H⟩ := H
             replace H : (if t281 = true then (formeref02_Make.l0 k2 a0 l1 (wrap64 (x6_2 + 1))) else (some (([] : List (S57)), 1))) = some (r1, r2) := H
             have A11 := Aside0.mk A110
             clear A110
             by_cases c12 : t281 = true
             · subst c12
               have H1 : (formeref02_Make.l0 k2 a0 l1 (wrap64 (x6_2 + 1))) = some (r1, r2) := by rw [if_pos rfl] at H; exact H
               clear H
               have H := H1
               clear H1
               have H' := Aside0.mk H
               clear H
               have p280 : 0 ≤ (x6_2 : Int) := of_decide_eq_true (by (with_reducible assumption))
               have q280 : x6_2 < (l1.length : Int) := of_decide_eq_true (by (with_reducible assumption))
               obtain ⟨ad280, e280, hx280_0⟩ := Kd.at_int HR1.out x6_2 p280 q280
               cases e280
               replace hx280_0 := (HB.out.cell (World.block_lt_of_cell? w _ hx280_0)).trans hx280_0
               replace p280 := eq_true p280
               replace q280 := eq_true q280
               go_wp2_with (((with_reducible refine gate_callee (f := 58) rfl ?_); refine goesL_ (some 39) rfl rfl Try.func58 (by kernel_rfl) rfl #[.int .i64 (rd l1 x6_2)] rfl (by (try simp only [List.map_toArray, List.map_cons, List.map_nil]); rfl) ?_; (with_reducible refine (formeref01_Coord.calls (rd l1 x6_2) true _ A11.out).mono ?_); rintro e w' ⟨rfl, ⟨nd, rfl⟩⟩; refine ⟨_, rfl, ?_⟩))
               go_roundg k2
               case measure => have := HJ3.out; have := HK2.out; omega
               case rel => exact ⟨(wrap64 (x6_2 + 1)), (by rfl), H', ⟨by have := HJ3.out; have := HK2.out; omega⟩, ⟨by repeat ((with_reducible first | exact HB.out | apply pw_below_drewN))⟩⟩
             · replace c12 := Bool.eq_false_iff.mpr c12
               subst c12
               have H1 : (some (([] : List (S57)), 1)) = some (r1, r2) := by rw [if_neg (show ¬ (false = true) by decide)] at H; exact H
               clear H
               have H := H1
               clear H1
               simp only [Option.some.injEq, Prod.mk.injEq] at H
               obtain ⟨rfl, rfl⟩ := H
               have p280 : 0 ≤ (x6_2 : Int) := of_decide_eq_true (by (with_reducible assumption))
               have q280 : x6_2 < (l1.length : Int) := of_decide_eq_true (by (with_reducible assumption))
               obtain ⟨ad280, e280, hx280_0⟩ := Kd.at_int HR1.out x6_2 p280 q280
               cases e280
               replace hx280_0 := (HB.out.cell (World.block_lt_of_cell? w _ hx280_0)).trans hx280_0
               replace p280 := eq_true p280
               replace q280 := eq_true q280
               go_wp2_with (((with_reducible refine gate_callee (f := 58) rfl ?_); refine goesL_ (some 39) rfl rfl Try.func58 (by kernel_rfl) rfl #[.int .i64 (rd l1 x6_2)] rfl (by (try simp only [List.map_toArray, List.map_cons, List.map_nil]); rfl) ?_; (with_reducible refine (formeref01_Coord.calls (rd l1 x6_2) false _ A11.out).mono ?_); rintro e w' ⟨rfl, ⟨nd, rfl⟩⟩; refine ⟨_, rfl, ?_⟩))
               go_ret2
               exact ⟨_, by rfl, by exact Kd.R_nil _ _ _ _ _, by repeat ((with_reducible first | exact HB.out | apply pw_below_drewN))⟩
           · rw [if_neg c10] at H
             exact absurd H (by simp)
         · rw [if_neg c9] at H
           have c9b0 : decide (x6_2 < (l1.length : Int)) = false := decide_eq_false c9
           clear c9
           replace H := Option.bind_eq_some_iff.mp H
           obtain ⟨t282, A130, H⟩ := H
           replace H : (some (t282, 0)) = some (r1, r2) := H
           have A13 := Aside0.mk A130
           clear A130
           simp only [Option.some.injEq, Prod.mk.injEq] at H
           obtain ⟨rfl, rfl⟩ := H
           go_wp2_with (((with_reducible refine gate_callee (f := 69) rfl ?_); refine goesL_ (some 44) rfl rfl Try.func69 (by kernel_rfl) rfl #[.int .i64 a0, .slice A1 l1.length c1] rfl (by (try simp only [List.map_toArray, List.map_cons, List.map_nil]); rfl) ?_; (with_reducible refine (formeref02_split.calls k2 a0 _ _ l1 t282 _ ?side1 ?side2 A13.out).mono ?_); (case side1 => repeat (exact (Kd.C_below HR1.out HB.out))); (case side2 => exact HC1.out); rintro e w14 ⟨v283, rfl, ho0, hb⟩; refine ⟨_, rfl, ?_⟩; have HO284 := Aside0.mk (Kd.R_lower ho0 (below_size HB.out)); replace HB := Aside0.mk (below_step HB.out hb); (try clear hb); (try clear ho0)))
           go_ret2
           exact ⟨_, by rfl, by (with_reducible repeat (fail)); exact HO284.out, by repeat ((with_reducible exact HB.out))⟩
end
end Go.Proofs.Ytdigjjncoeaiiaa.PAll
