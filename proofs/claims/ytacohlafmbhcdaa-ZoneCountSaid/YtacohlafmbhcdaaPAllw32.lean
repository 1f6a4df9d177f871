/- Printed by a program of this session (wip/gprint.py) over the translation. Not trusted: Lean checks it. -/
import Derived.Test.YtacohlafmbhcdaaPAlld1
import Derived.Test.YtacohlafmbhcdaaPAllw17
import Derived.Test.YtacohlafmbhcdaaPAllw23
import Derived.Test.YtacohlafmbhcdaaPAllw26
import Derived.Test.YtacohlafmbhcdaaPAllw28
import Derived.Test.YtacohlafmbhcdaaPAllw30
import Derived.Test.YtacohlafmbhcdaaPAllw31
namespace Go.Proofs.Ytacohlafmbhcdaa.PAll
open Go.RowKit Go.Proofs.YtacohlafmbhcdaaW.PrintWords Go.Proofs.YtacohlafmbhcdaaW.PrintLast Go.Proofs.YtacohlafmbhcdaaW.PrintMore
attribute [local go_sem] max2_int min2_int max_two min_two max_three min_three max_four min_four   -- for this text's walks alone
set_option linter.unusedVariables false
set_option linter.unusedSimpArgs false


set_option maxHeartbeats 8000000 in
set_option maxRecDepth 100000 in
theorem formelaw03_ZoneCount.calls (k : Nat) (A0 : Option Addr) (c0 : Nat) (l0 : List (S35)) (r : Bool) (w : World) (hr0 : Kd.C k35 w A0 l0.length l0) (hc0 : l0.length ≤ c0) (h : formelaw03_ZoneCount.f k l0 = some r) :
    Calls Try.prog 6 #[.slice A0 l0.length c0] w fun e w' => e = .returned (.bool r) ∧ Below w.heap.size w w' := by
  have hu35 := Try.underlying35
  have HR0 := Aside0.mk hr0
  have HC0 := Aside0.mk hc0
  clear hr0 hc0
  have HB := Aside0.mk (Below.refl w.heap.size w)
  have H : ((formelaw03_head.f).bind fun t366 => ((formelaw03_usable.f k l0 ([] : List (S35))).bind fun t367 => (if t367 = true then ((zone_Canon.f l0).bind fun bt368 => ((zone_Count.f l0).bind fun bt372 => ((zone_Count.f bt368.1).bind fun bt374 => (formelaw03_ZoneCount.l0 k t366 bt368.1 bt368.2 bt372.1 bt372.2 bt374.1 bt374.2 0 bt368.1 (bt368.1.length : Int) 0)))) else (some t366)))) = some r := h
  clear h
  replace H := Option.bind_eq_some_iff.mp H
  obtain ⟨t366, A20, H⟩ := H
  replace H : ((formelaw03_usable.f k l0 ([] : List (S35))).bind fun t367 => (if t367 = true then ((zone_Canon.f l0).bind fun bt368 => ((zone_Count.f l0).bind fun bt372 => ((zone_Count.f bt368.1).bind fun bt374 => (formelaw03_ZoneCount.l0 k t366 bt368.1 bt368.2 bt372.1 bt372.2 bt374.1 bt374.2 0 bt368.1 (bt368.1.length : Int) 0)))) else (some t366))) = some r := H
  have A2 := Aside0.mk A20
  clear A20
  replace H := Option.bind_eq_some_iff.mp H
  obtain ⟨t367, A30, H⟩ := H
  replace H : (if t367 = true then ((zone_Canon.f l0).bind fun bt368 => ((zone_Count.f l0).bind fun bt372 => ((zone_Count.f bt368.1).bind fun bt374 => (formelaw03_ZoneCount.l0 k t366 bt368.1 bt368.2 bt372.1 bt372.2 bt374.1 bt374.2 0 bt368.1 (bt368.1.length : Int) 0)))) else (some t366)) = some r := H
  have A3 := Aside0.mk A30
  clear A30
  by_cases c4 : t367 = true
  · subst c4
    have H1 : ((zone_Canon.f l0).bind fun bt368 => ((zone_Count.f l0).bind fun bt372 => ((zone_Count.f bt368.1).bind fun bt374 => (formelaw03_ZoneCount.l0 k t366 bt368.1 bt368.2 bt372.1 bt372.2 bt374.1 bt374.2 0 bt368.1 (bt368.1.length : Int) 0)))) = some r := by rw [if_pos rfl] at H; exact H
    clear H
    have H := H1
    clear H1
    replace H := Option.bind_eq_some_iff.mp H
    obtain ⟨⟨t368, t369⟩, A50, H⟩ := H
    replace H : ((zone_Count.f l0).bind fun bt372 => ((zone_Count.f t368).bind fun bt374 => (formelaw03_ZoneCount.l0 k t366 t368 t369 bt372.1 bt372.2 bt374.1 bt374.2 0 t368 (t368.length : Int) 0))) = some r := H
    have A5 := Aside0.mk A50
    clear A50
    replace H := Option.bind_eq_some_iff.mp H
    obtain ⟨⟨t372, t373⟩, A60, H⟩ := H
    replace H : ((zone_Count.f t368).bind fun bt374 => (formelaw03_ZoneCount.l0 k t366 t368 t369 t372 t373 bt374.1 bt374.2 0 t368 (t368.length : Int) 0)) = some r := H
    have A6 := Aside0.mk A60
    clear A60
    replace H := Option.bind_eq_some_iff.mp H
    obtain ⟨⟨t374, t375⟩, A70, H⟩ := H
    replace H : (formelaw03_ZoneCount.l0 k t366 t368 t369 t372 t373 t374 t375 0 t368 (t368.length : Int) 0) = some r := H
    have A7 := Aside0.mk A70
    clear A70
    have H' := Aside0.mk H
    clear H
    go_enter Try.func6, Try.ntmps6
    go_wp2_with (first | ((with_reducible refine gate_callee (f := 9) rfl ?_); refine goesL_ (some 13) rfl rfl Try.func9 (by kernel_rfl) rfl #[] rfl (by (try simp only [List.map_toArray, List.map_cons, List.map_nil]); done) ?_; (with_reducible refine (formelaw03_head.calls  t366 _ A2.out).mono ?_); rintro e w8 ⟨rfl, hb⟩; refine ⟨_, rfl, ?_⟩; have n0_ := Aside0.mk (below_step (by repeat ((with_reducible exact HB.out))) hb); clear HB; have HB := n0_; clear n0_; (try clear hb)) | ((with_reducible refine gate_callee (f := 10) rfl ?_); refine goesL_ (some 15) rfl rfl Try.func10 (by kernel_rfl) rfl #[.slice A0 l0.length c0, .slice none 0 0] rfl (by (try simp only [List.map_toArray, List.map_cons, List.map_nil]); rfl) ?_; (refine (formelaw03_usable.calls k _ _ l0 _ _ ([] : List (S35)) true _ ?side1 ?side2 ?side3 ?side4 A3.out).mono ?_); (case side1 => repeat (exact (Kd.C_below HR0.out HB.out))); (case side2 => exact HC0.out); (case side3 => exact Kd.C_nil _ _); (case side4 => exact Nat.le_refl _); rintro e w9 ⟨rfl, hb⟩; refine ⟨_, rfl, ?_⟩; have n0_ := Aside0.mk (below_step (by repeat ((with_reducible exact HB.out))) hb); clear HB; have HB := n0_; clear n0_; (try clear hb)) | ((with_reducible refine gate_callee (f := 11) rfl ?_); refine goesL_ (some 20) rfl rfl Try.func11 (by kernel_rfl) rfl #[.slice A0 l0.length c0] rfl (by (try simp only [List.map_toArray, List.map_cons, List.map_nil]); rfl) ?_; (with_reducible refine (zone_Canon.calls _ _ l0 t368 t369 _ ?side1 ?side2 A5.out).mono ?_); (case side1 => repeat (exact (Kd.C_below HR0.out HB.out))); (case side2 => exact HC0.out); rintro e w10 ⟨v370, rfl, ho0, hb⟩; refine ⟨_, rfl, ?_⟩; have n0_ := Aside0.mk (Kd.R_lower ho0 (below_size (by repeat ((with_reducible exact HB.out))))); have n1_ := Aside0.mk (below_step (by repeat ((with_reducible exact HB.out))) hb); clear HB; have HO371 := n0_; have HB := n1_; clear n0_ n1_; (try clear hb); (try clear ho0)) | ((with_reducible refine gate_callee (f := 20) rfl ?_); refine goesL_ (some 25) rfl rfl Try.func20 (by kernel_rfl) rfl #[.slice A0 l0.length c0] rfl (by (try simp only [List.map_toArray, List.map_cons, List.map_nil]); rfl) ?_; (with_reducible refine (zone_Count.calls _ _ l0 t372 t373 _ ?side1 ?side2 A6.out).mono ?_); (case side1 => repeat (exact (Kd.C_below HR0.out HB.out))); (case side2 => exact HC0.out); rintro e w11 ⟨rfl, hb⟩; refine ⟨_, rfl, ?_⟩; have n0_ := Aside0.mk (Kd.R_below (by (with_reducible repeat (fail)); exact HO371.out) hb); have n1_ := Aside0.mk (below_step (by repeat ((with_reducible exact HB.out))) hb); clear HO371; clear HB; have HO371 := n0_; have HB := n1_; clear n0_ n1_; (try clear hb); obtain ⟨Ao12, co12, eo12⟩ := Kd.R_slice HO371.out; subst eo12) | ((with_reducible refine gate_callee (f := 20) rfl ?_); refine goesL_ (some 30) rfl rfl Try.func20 (by kernel_rfl) rfl #[.slice Ao12 t368.length co12] rfl (by (try simp only [List.map_toArray, List.map_cons, List.map_nil]); rfl) ?_; (with_reducible refine (zone_Count.calls _ _ t368 t374 t375 _ ?side1 ?side2 A7.out).mono ?_); (case side1 => repeat (exact (Kd.R_reads' HO371.out).2.2)); (case side2 => exact (Kd.R_reads' HO371.out).2.1); rintro e w13 ⟨rfl, hb⟩; refine ⟨_, rfl, ?_⟩; have n0_ := Aside0.mk (Kd.R_below (by (with_reducible repeat (fail)); exact HO371.out) hb); have n1_ := Aside0.mk (below_step (by repeat ((with_reducible exact HB.out))) hb); clear HO371; clear HB; have HO371 := n0_; have HB := n1_; clear n0_ n1_; (try clear hb)))
    go_loopg [10, 35] k (fun kq v10 v35 w' => ∃ (x10_1 : Int) (x35_1 : Int), v10 = .int .i64 x10_1 ∧ v35 = .int .i64 x35_1 ∧ Aside0 (formelaw03_ZoneCount.l0 kq t366 t368 t369 t372 t373 t374 t375 x10_1 t368 (t368.length : Int) x35_1 = some r) ∧ Aside0 (kq ≤ k) ∧ Aside0 (Kd.R k35 35 w' w.heap.size (fun _ => True) (.slice Ao12 t368.length co12) t368) ∧ Aside0 (Kd.R k35 35 w' w.heap.size (fun _ => True) (.slice Ao12 t368.length co12) t368) ∧ Aside0 (Below w.heap.size w w'))
    case atStart => exact ⟨(0), (0), (by rfl), (by rfl), H', ⟨Nat.le_refl _⟩, ⟨by (with_reducible repeat (fail)); exact HO371.out⟩, ⟨by (with_reducible repeat (fail)); exact HO371.out⟩, ⟨by repeat ((with_reducible exact HB.out))⟩⟩
    case round =>
      clear H'
      obtain ⟨x10_1, x35_1, rfl, rfl, HA, HK1, HO_4, HO_33, HB⟩ := hrel
      cases gk with
      | zero => exact absurd HA.out (by simp [formelaw03_ZoneCount.l0])
      | succ k1 =>
        have H := HA.out
        clear HA
        simp only [formelaw03_ZoneCount.l0] at H
        by_cases c14 : x35_1 < (t368.length : Int)
        · rw [if_pos c14] at H
          have c14b0 : decide (x35_1 < (t368.length : Int)) = true := decide_eq_true c14
          clear c14
          by_cases c15 : 0 ≤ x35_1
          · rw [if_pos c15] at H
            have c15b0 : decide (0 ≤ x35_1) = true := decide_eq_true c15
            clear c15
            by_cases c16 : x35_1 < (t368.length : Int)
            · rw [if_pos c16] at H
              have c16b0 : decide (x35_1 < (t368.length : Int)) = true := decide_eq_true c16
              clear c16
              by_cases c17 : x35_1 > 0
              · rw [if_pos c17] at H
                have c17b0 : decide (0 < x35_1) = true := decide_eq_true c17
                clear c17
                obtain ⟨ji18, hji18⟩ : ∃ j_ : Int, (wrap64 (x35_1 - 1)) = j_ := ⟨_, rfl⟩
                replace H : (if 0 ≤ (ji18) then (if (ji18) < (t368.length : Int) then ((formeref03_First.f ((rd_T35 t368 (ji18)).f0) ((rd_T35 t368 (ji18)).f1.f0) ((rd_T35 t368 (ji18)).f1.f1) ((rd_T35 t368 (ji18)).f2.f0) ((rd_T35 t368 (ji18)).f2.f1)).bind fun bt379 => ((formeref03_First.f ((rd_T35 t368 x35_1).f0) ((rd_T35 t368 x35_1).f1.f0) ((rd_T35 t368 x35_1).f1.f1) ((rd_T35 t368 x35_1).f2.f0) ((rd_T35 t368 x35_1).f2.f1)).bind fun bt382 => ((formeref03_Before.f bt379.1 bt379.2.1 bt379.2.2 bt382.1 bt382.2.1 bt382.2.2).bind fun t385 => (if t385 = true then (formelaw03_ZoneCount.l0 k1 t366 t368 t369 t372 t373 t374 t375 (wrap64 (x10_1 + (wrap64 ((wrap64 ((wrap64 (((rd_T35 t368 x35_1).f1.f1) - ((rd_T35 t368 x35_1).f1.f0))) + 1)) * (wrap64 ((wrap64 (((rd_T35 t368 x35_1).f2.f1) - ((rd_T35 t368 x35_1).f2.f0))) + 1)))))) t368 (t368.length : Int) (wrap64 (x35_1 + 1))) else (some false))))) else (none)) else (none)) = some r := by (rw [hji18] at H; exact H)
                have hji18w : (IntKind.i64.wrap (x35_1 - 1)) = ji18 := (i64_w _).trans hji18
                by_cases c19 : 0 ≤ (ji18)
                · rw [if_pos c19] at H
                  have c19b0 : decide (0 ≤ (ji18)) = true := decide_eq_true c19
                  clear c19
                  by_cases c20 : (ji18) < (t368.length : Int)
                  · rw [if_pos c20] at H
                    have c20b0 : decide ((ji18) < (t368.length : Int)) = true := decide_eq_true c20
                    clear c20
                    replace H := Option.bind_eq_some_iff.mp H
                    obtain ⟨⟨t379, t380, t381⟩, A210, H⟩ := H
                    replace H : ((formeref03_First.f ((rd_T35 t368 x35_1).f0) ((rd_T35 t368 x35_1).f1.f0) ((rd_T35 t368 x35_1).f1.f1) ((rd_T35 t368 x35_1).f2.f0) ((rd_T35 t368 x35_1).f2.f1)).bind fun bt382 => ((formeref03_Before.f t379 t380 t381 bt382.1 bt382.2.1 bt382.2.2).bind fun t385 => (if t385 = true then (formelaw03_ZoneCount.l0 k1 t366 t368 t369 t372 t373 t374 t375 (wrap64 (x10_1 + (wrap64 ((wrap64 ((wrap64 (((rd_T35 t368 x35_1).f1.f1) - ((rd_T35 t368 x35_1).f1.f0))) + 1)) * (wrap64 ((wrap64 (((rd_T35 t368 x35_1).f2.f1) - ((rd_T35 t368 x35_1).f2.f0))) + 1)))))) t368 (t368.length : Int) (wrap64 (x35_1 + 1))) else (some false)))) = some r := H
                    have A21 := Aside0.mk A210
                    clear A210
                    replace H := Option.bind_eq_some_iff.mp H
                    obtain ⟨⟨t382, t383, t384⟩, A220, H⟩ := H
                    replace H : ((formeref03_Before.f t379 t380 t381 t382 t383 t384).bind fun t385 => (if t385 = true then (formelaw03_ZoneCount.l0 k1 t366 t368 t369 t372 t373 t374 t375 (wrap64 (x10_1 + (wrap64 ((wrap64 ((wrap64 (((rd_T35 t368 x35_1).f1.f1) - ((rd_T35 t368 x35_1).f1.f0))) + 1)) * (wrap64 ((wrap64 (((rd_T35 t368 x35_1).f2.f1) - ((rd_T35 t368 x35_1).f2.f0))) + 1)))))) t368 (t368.length : Int) (wrap64 (x35_1 + 1))) else (some false))) = some r := H
                    have A22 := Aside0.mk A220
                    clear A220
                    replace H := Option.bind_eq_some_iff.mp H
                    obtain ⟨t385, A230, H⟩ := H
                    replace H : (if t385 = true then (formelaw03_ZoneCount.l0 k1 t366 t368 t369 t372 t373 t374 t375 (wrap64 (x10_1 + (wrap64 ((wrap64 ((wrap64 (((rd_T35 t368 x35_1).f1.f1) - ((rd_T35 t368 x35_1).f1.f0))) + 1)) * (wrap64 ((wrap64 (((rd_T35 t368 x35_1).f2.f1) - ((rd_T35 t368 x35_1).f2.f0))) + 1)))))) t368 (t368.length : Int) (wrap64 (x35_1 + 1))) else (some false)) = some r := H
                    have A23 := Aside0.mk A230
                    clear A230
                    by_cases c24 : t385 = true
                    · subst c24
                      have H1 : (formelaw03_ZoneCount.l0 k1 t366 t368 t369 t372 t373 t374 t375 (wrap64 (x10_1 + (wrap64 ((wrap64 ((wrap64 (((rd_T35 t368 x35_1).f1.f1) - ((rd_T35 t368 x35_1).f1.f0))) + 1)) * (wrap64 ((wrap64 (((rd_T35 t368 x35_1).f2.f1) - ((rd_T35 t368 x35_1).f2.f0))) + 1)))))) t368 (t368.length : Int) (wrap64 (x35_1 + 1))) = some r := by rw [if_pos rfl] at H; exact H
                      clear H
                      have H := H1
                      clear H1
                      have H' := Aside0.mk H
                      clear H
                      have p376 : 0 ≤ (x35_1 : Int) := of_decide_eq_true (by (with_reducible assumption))
                      have q376 : x35_1 < (t368.length : Int) := of_decide_eq_true (by (with_reducible assumption))
                      obtain ⟨ad376, e376, hx376_0, hx376_1, hx376_2, hx376_3, hx376_4⟩ := at_T35 (Kd.R_reads' HO_33.out).2.2 x35_1 p376 q376
                      cases e376
                      replace p376 := eq_true p376
                      replace q376 := eq_true q376
                      try go_wp2_with (((with_reducible refine gate_dst (N := 12) rfl ?_); refine box_event ?hg (N := 12) ?hd (cs := #[.int .i64 0, .int .i64 0, .int .i64 0, .int .i64 0, .int .i64 0]) (t := 35) ?hr ?_; (case hd => rfl); (case hg => rfl); (case hr => (go_simp; done)); intro gb377 hg w25 hbox hb; have n0_ := Aside0.mk (Kd.R_below (Kd.R_elderB (by (with_reducible repeat (fail)); exact HO_4.out) gb377 (Nat.le_of_eq hg.symm)) hb); have n1_ := Aside0.mk (Kd.R_below (Kd.R_elderB (by (with_reducible repeat (fail)); exact HO_33.out) gb377 (Nat.le_of_eq hg.symm)) hb); have n2_ := Aside0.mk (below_step (by repeat ((with_reducible exact HB.out))) hb); have n3_ := Aside0.mk (hbox); have n4_ := Aside0.mk ((by rw [hg]; exact (below_size (by repeat ((with_reducible exact HB.out)))) : w.heap.size ≤ gb377)); have n5_ := Aside0.mk ((by rw [hg]; exact (below_size (by repeat ((with_reducible exact HB.out)))) : w.heap.size ≤ gb377)); clear HO_4; clear HO_33; clear HB; have HO_4 := n0_; have HO_33 := n1_; have HB := n2_; have BK377 := n3_; have GW377 := n4_; have GE377 := n5_; clear n0_ n1_ n2_ n3_ n4_ n5_; clear hb hbox hg; have hcz26_0 : w25.cell? ⟨gb377, 0, none⟩ = some (.int .i64 0) := (blk_cell BK377.out 0).trans rfl; have hcz26_1 : w25.cell? ⟨gb377, 1, none⟩ = some (.int .i64 0) := (blk_cell BK377.out 1).trans rfl; have hcz26_2 : w25.cell? ⟨gb377, 2, none⟩ = some (.int .i64 0) := (blk_cell BK377.out 2).trans rfl; have hcz26_3 : w25.cell? ⟨gb377, 3, none⟩ = some (.int .i64 0) := (blk_cell BK377.out 3).trans rfl; have hcz26_4 : w25.cell? ⟨gb377, 4, none⟩ = some (.int .i64 0) := (blk_cell BK377.out 4).trans rfl; have hfz26_0 := blk_frozen BK377.out 0; have hfz26_1 := blk_frozen BK377.out 1; have hfz26_2 := blk_frozen BK377.out 2; have hfz26_3 := blk_frozen BK377.out 3; have hfz26_4 := blk_frozen BK377.out 4))
                      have n0_ : Aside0 (Kd.R k35 35 (((((w25.setCell ⟨gb377, 0, none⟩ (.int .i64 ((rd_T35 t368 x35_1).f0))).setCell ⟨gb377, 1, none⟩ (.int .i64 ((rd_T35 t368 x35_1).f1.f0))).setCell ⟨gb377, 2, none⟩ (.int .i64 ((rd_T35 t368 x35_1).f1.f1))).setCell ⟨gb377, 3, none⟩ (.int .i64 ((rd_T35 t368 x35_1).f2.f0))).setCell ⟨gb377, 4, none⟩ (.int .i64 ((rd_T35 t368 x35_1).f2.f1))) w.heap.size (fun k_ => k_ ≠ gb377) (.slice (some ad376) t368.length co12) t368) := ⟨by (with_reducible repeat (fail)); exact Kd.R_mono (Kd.R_far (p := ⟨gb377, 4, none⟩) (Kd.R_far (p := ⟨gb377, 3, none⟩) (Kd.R_far (p := ⟨gb377, 2, none⟩) (Kd.R_far (p := ⟨gb377, 1, none⟩) (Kd.R_far (p := ⟨gb377, 0, none⟩) (Kd.R_mono HO_4.out (fun k_ hk => (⟨hk, hk.2⟩ : _ ∧ k_ ≠ gb377))) (fun _ hk => hk.2) (.int .i64 ((rd_T35 t368 x35_1).f0))) (fun _ hk => hk.2) (.int .i64 ((rd_T35 t368 x35_1).f1.f0))) (fun _ hk => hk.2) (.int .i64 ((rd_T35 t368 x35_1).f1.f1))) (fun _ hk => hk.2) (.int .i64 ((rd_T35 t368 x35_1).f2.f0))) (fun _ hk => hk.2) (.int .i64 ((rd_T35 t368 x35_1).f2.f1))) (fun _ hk => hk.1.2)⟩
                      have n1_ : Aside0 (Kd.R k35 35 (((((w25.setCell ⟨gb377, 0, none⟩ (.int .i64 ((rd_T35 t368 x35_1).f0))).setCell ⟨gb377, 1, none⟩ (.int .i64 ((rd_T35 t368 x35_1).f1.f0))).setCell ⟨gb377, 2, none⟩ (.int .i64 ((rd_T35 t368 x35_1).f1.f1))).setCell ⟨gb377, 3, none⟩ (.int .i64 ((rd_T35 t368 x35_1).f2.f0))).setCell ⟨gb377, 4, none⟩ (.int .i64 ((rd_T35 t368 x35_1).f2.f1))) w.heap.size (fun k_ => k_ ≠ gb377) (.slice (some ad376) t368.length co12) t368) := ⟨by (with_reducible repeat (fail)); exact Kd.R_mono (Kd.R_far (p := ⟨gb377, 4, none⟩) (Kd.R_far (p := ⟨gb377, 3, none⟩) (Kd.R_far (p := ⟨gb377, 2, none⟩) (Kd.R_far (p := ⟨gb377, 1, none⟩) (Kd.R_far (p := ⟨gb377, 0, none⟩) (Kd.R_mono HO_33.out (fun k_ hk => (⟨hk, hk.2⟩ : _ ∧ k_ ≠ gb377))) (fun _ hk => hk.2) (.int .i64 ((rd_T35 t368 x35_1).f0))) (fun _ hk => hk.2) (.int .i64 ((rd_T35 t368 x35_1).f1.f0))) (fun _ hk => hk.2) (.int .i64 ((rd_T35 t368 x35_1).f1.f1))) (fun _ hk => hk.2) (.int .i64 ((rd_T35 t368 x35_1).f2.f0))) (fun _ hk => hk.2) (.int .i64 ((rd_T35 t368 x35_1).f2.f1))) (fun _ hk => hk.1.2)⟩
                      have n2_ : Aside0 ((((((w25.setCell ⟨gb377, 0, none⟩ (.int .i64 ((rd_T35 t368 x35_1).f0))).setCell ⟨gb377, 1, none⟩ (.int .i64 ((rd_T35 t368 x35_1).f1.f0))).setCell ⟨gb377, 2, none⟩ (.int .i64 ((rd_T35 t368 x35_1).f1.f1))).setCell ⟨gb377, 3, none⟩ (.int .i64 ((rd_T35 t368 x35_1).f2.f0))).setCell ⟨gb377, 4, none⟩ (.int .i64 ((rd_T35 t368 x35_1).f2.f1))).heap[gb377]? = some (.cells #[.int .i64 ((rd_T35 t368 x35_1).f0), .int .i64 ((rd_T35 t368 x35_1).f1.f0), .int .i64 ((rd_T35 t368 x35_1).f1.f1), .int .i64 ((rd_T35 t368 x35_1).f2.f0), .int .i64 ((rd_T35 t368 x35_1).f2.f1)] 35 (0, 0))) := ⟨by (with_reducible repeat (fail)); refine blk_put (cs := #[.int .i64 ((rd_T35 t368 x35_1).f0), .int .i64 ((rd_T35 t368 x35_1).f1.f0), .int .i64 ((rd_T35 t368 x35_1).f1.f1), .int .i64 ((rd_T35 t368 x35_1).f2.f0), .int .i64 0]) ?_ 4 _ rfl; (with_reducible repeat (fail)); refine blk_put (cs := #[.int .i64 ((rd_T35 t368 x35_1).f0), .int .i64 ((rd_T35 t368 x35_1).f1.f0), .int .i64 ((rd_T35 t368 x35_1).f1.f1), .int .i64 0, .int .i64 0]) ?_ 3 _ rfl; (with_reducible repeat (fail)); refine blk_put (cs := #[.int .i64 ((rd_T35 t368 x35_1).f0), .int .i64 ((rd_T35 t368 x35_1).f1.f0), .int .i64 0, .int .i64 0, .int .i64 0]) ?_ 2 _ rfl; (with_reducible repeat (fail)); refine blk_put (cs := #[.int .i64 ((rd_T35 t368 x35_1).f0), .int .i64 0, .int .i64 0, .int .i64 0, .int .i64 0]) ?_ 1 _ rfl; (with_reducible repeat (fail)); refine blk_put (cs := #[.int .i64 0, .int .i64 0, .int .i64 0, .int .i64 0, .int .i64 0]) ?_ 0 _ rfl; (with_reducible repeat (fail)); exact BK377.out⟩
                      have n3_ : Aside0 (Below w.heap.size w (((((w25.setCell ⟨gb377, 0, none⟩ (.int .i64 ((rd_T35 t368 x35_1).f0))).setCell ⟨gb377, 1, none⟩ (.int .i64 ((rd_T35 t368 x35_1).f1.f0))).setCell ⟨gb377, 2, none⟩ (.int .i64 ((rd_T35 t368 x35_1).f1.f1))).setCell ⟨gb377, 3, none⟩ (.int .i64 ((rd_T35 t368 x35_1).f2.f0))).setCell ⟨gb377, 4, none⟩ (.int .i64 ((rd_T35 t368 x35_1).f2.f1)))) := ⟨by repeat ((with_reducible first | exact HB.out | refine below_set ?_ GE377.out))⟩
                      (try clear HO_4)
                      (try clear HO_33)
                      (try clear BK377)
                      (try clear HB)
                      generalize (((((w25.setCell ⟨gb377, 0, none⟩ (.int .i64 ((rd_T35 t368 x35_1).f0))).setCell ⟨gb377, 1, none⟩ (.int .i64 ((rd_T35 t368 x35_1).f1.f0))).setCell ⟨gb377, 2, none⟩ (.int .i64 ((rd_T35 t368 x35_1).f1.f1))).setCell ⟨gb377, 3, none⟩ (.int .i64 ((rd_T35 t368 x35_1).f2.f0))).setCell ⟨gb377, 4, none⟩ (.int .i64 ((rd_T35 t368 x35_1).f2.f1))) = w27 at n0_ n1_ n2_ n3_ ⊢
                      have HO_4 := n0_
                      have HO_33 := n1_
                      have BK377 := n2_
                      have HB := n3_
                      clear n0_ n1_ n2_ n3_
                      have n0_ := Aside0.mk (Kd.R_drew HO_4.out)
                      have n1_ := Aside0.mk (Kd.R_drew HO_33.out)
                      have n2_ := Aside0.mk (blk_drew BK377.out)
                      have n3_ := Aside0.mk (below_drew1 HB.out)
                      clear HO_4
                      clear HO_33
                      clear BK377
                      clear HB
                      have HO_4 := n0_
                      have HO_33 := n1_
                      have BK377 := n2_
                      have HB := n3_
                      clear n0_ n1_ n2_ n3_
                      have p378 : 0 ≤ ((ji18) : Int) := of_decide_eq_true (by (with_reducible assumption))
                      have q378 : (ji18) < (t368.length : Int) := of_decide_eq_true (by (with_reducible assumption))
                      obtain ⟨ad378, e378, hx378_0, hx378_1, hx378_2, hx378_3, hx378_4⟩ := at_T35 (Kd.R_reads' HO_4.out).2.2 (ji18) p378 q378
                      obtain rfl : ad376 = ad378 := (by injection e378)
                      replace p378 := eq_true p378
                      replace q378 := eq_true q378
                      refine start_ (n := 14) (S := fun w' => w'.cell? ⟨gb377, 0, none⟩ = some (.int .i64 ((rd_T35 t368 x35_1).f0)) ∧ w'.cell? ⟨gb377, 1, none⟩ = some (.int .i64 ((rd_T35 t368 x35_1).f1.f0)) ∧ w'.cell? ⟨gb377, 2, none⟩ = some (.int .i64 ((rd_T35 t368 x35_1).f1.f1)) ∧ w'.cell? ⟨gb377, 3, none⟩ = some (.int .i64 ((rd_T35 t368 x35_1).f2.f0)) ∧ w'.cell? ⟨gb377, 4, none⟩ = some (.int .i64 ((rd_T35 t368 x35_1).f2.f1)) ∧ w'.cell? (ad376.add (((ji18)).toNat * 5)) = some (.int .i64 ((rd_T35 t368 (ji18)).f0)) ∧ w'.cell? ⟨(ad376.add (((ji18)).toNat * 5)).block, (ad376.add (((ji18)).toNat * 5)).off + 1, none⟩ = some (.int .i64 ((rd_T35 t368 (ji18)).f1.f0)) ∧ w'.cell? ⟨(ad376.add (((ji18)).toNat * 5)).block, (ad376.add (((ji18)).toNat * 5)).off + 2, none⟩ = some (.int .i64 ((rd_T35 t368 (ji18)).f1.f1)) ∧ w'.cell? ⟨(ad376.add (((ji18)).toNat * 5)).block, (ad376.add (((ji18)).toNat * 5)).off + 3, none⟩ = some (.int .i64 ((rd_T35 t368 (ji18)).f2.f0)) ∧ w'.cell? ⟨(ad376.add (((ji18)).toNat * 5)).block, (ad376.add (((ji18)).toNat * 5)).off + 4, none⟩ = some (.int .i64 ((rd_T35 t368 (ji18)).f2.f1))) (ds := []) #[false, false, false, false, false, false, false, false, false, false, false, false, false, false] (by kernel_rfl) rfl rfl ⟨(blk_cell BK377.out 0).trans rfl, (blk_cell BK377.out 1).trans rfl, (blk_cell BK377.out 2).trans rfl, (blk_cell BK377.out 3).trans rfl, (blk_cell BK377.out 4).trans rfl, hx378_0, hx378_1, hx378_2, hx378_3, hx378_4⟩ (fun hHeld => ?_); refine with_tabW formelaw03_ZoneCount.tab12 formelaw03_ZoneCount.bits12 (fun HT_ HW_ => ?_)
                      generalize w27.drew = w28 at HO_4 HO_33 BK377 HB hx378_0 hx378_1 hx378_2 hx378_3 hx378_4 hHeld ⊢
                      refine pure_ (i := 0) (N := some 59) (v := ?_) (a' := ?_) #[true, false, false, false, false, false, false, false, false, false, false, false, false, false] rfl rfl (any_of HT_.out (by kernel_rfl)) (fun _ _ _ h => h) (Or.inl ⟨by rfl, ?_⟩) ?_ ?_
                      rotate_left
                      · intro w'
                        go_simp
                        with_reducible rfl
                      rotate_left
                      · simp only [Act.put, List.setIfInBounds_toArray, List.set_cons_zero, List.set_cons_succ, i64_w, i32_w]
                        rfl
                      refine pure_ (i := 1) (N := some 60) (v := ?_) (a' := ?_) #[true, true, false, false, false, false, false, false, false, false, false, false, false, false] rfl rfl (any_of HT_.out (by kernel_rfl)) (fun _ _ _ h => h) (Or.inl ⟨by rfl, ?_⟩) ?_ ?_
                      rotate_left
                      · intro w'
                        go_simp
                        with_reducible rfl
                      rotate_left
                      · simp only [Act.put, List.setIfInBounds_toArray, List.set_cons_zero, List.set_cons_succ, i64_w, i32_w]
                        rfl
                      refine pure_ (i := 2) (N := some 61) (v := ?_) (a' := ?_) #[true, true, true, false, false, false, false, false, false, false, false, false, false, false] rfl rfl (any_of HT_.out (by kernel_rfl)) (fun _ _ _ h => h) (Or.inl ⟨by rfl, ?_⟩) ?_ ?_
                      rotate_left
                      · intro w'
                        go_simp
                        with_reducible rfl
                      rotate_left
                      · simp only [Act.put, List.setIfInBounds_toArray, List.set_cons_zero, List.set_cons_succ, i64_w, i32_w]
                        rfl
                      refine pure_ (i := 3) (N := some 62) (v := ?_) (a' := ?_) #[true, true, true, true, false, false, false, false, false, false, false, false, false, false] rfl rfl (any_of HT_.out (by kernel_rfl)) (fun _ _ _ h => h) (Or.inl ⟨by rfl, ?_⟩) ?_ ?_
                      rotate_left
                      · intro w'
                        go_simp
                        with_reducible rfl
                      rotate_left
                      · simp only [Act.put, List.setIfInBounds_toArray, List.set_cons_zero, List.set_cons_succ, i64_w, i32_w]
                        rfl
                      refine pure_ (i := 4) (N := some 63) (v := ?_) (a' := ?_) #[true, true, true, true, true, false, false, false, false, false, false, false, false, false] rfl rfl (any_of HT_.out (by kernel_rfl)) (fun _ _ _ h => h) (Or.inl ⟨by rfl, ?_⟩) ?_ ?_
                      rotate_left
                      · intro w'
                        go_simp
                        with_reducible rfl
                      rotate_left
                      · simp only [Act.put, List.setIfInBounds_toArray, List.set_cons_zero, List.set_cons_succ, i64_w, i32_w]
                        rfl
                      refine pure_ (i := 5) (N := some 64) (v := ?_) (a' := ?_) #[true, true, true, true, true, true, false, false, false, false, false, false, false, false] rfl rfl (any_of HT_.out (by kernel_rfl)) (fun _ _ _ h => h) (Or.inl ⟨by rfl, ?_⟩) ?_ ?_
                      rotate_left
                      · intro w'
                        go_simp
                        with_reducible rfl
                      rotate_left
                      · simp only [Act.put, List.setIfInBounds_toArray, List.set_cons_zero, List.set_cons_succ, i64_w, i32_w]
                        rfl
                      refine pure_ (i := 6) (N := some 65) (v := ?_) (a' := ?_) #[true, true, true, true, true, true, true, false, false, false, false, false, false, false] rfl rfl (any_of HT_.out (by kernel_rfl)) (fun _ _ _ h => h) (Or.inl ⟨by rfl, ?_⟩) ?_ ?_
                      rotate_left
                      · intro w'
                        go_simp
                        with_reducible rfl
                      rotate_left
                      · simp only [Act.put, List.setIfInBounds_toArray, List.set_cons_zero, List.set_cons_succ, i64_w, i32_w]
                        rfl
                      refine take_ (i := 7) (N := some 66) (v := ?_) (a' := ?_) #[true, true, true, true, true, true, true, true, false, false, false, false, false, false] rfl rfl (take_ofW HT_.out HW_.out (by kernel_rfl)) (fun _ _ _ h => h) (Or.inl ⟨by rfl, ?_⟩) hHeld ?_ ?_
                      rotate_left
                      · rintro w' ⟨s0, s1, s2, s3, s4, s5, s6, s7, s8, s9⟩
                        go_simp
                        with_reducible rfl
                      rotate_left
                      · simp only [Act.put, List.setIfInBounds_toArray, List.set_cons_zero, List.set_cons_succ, i64_w, i32_w]
                        rfl
                      refine take_ (i := 9) (N := some 68) (v := ?_) (a' := ?_) #[true, true, true, true, true, true, true, true, false, true, false, false, false, false] rfl rfl (take_ofW HT_.out HW_.out (by kernel_rfl)) (fun _ _ _ h => h) (Or.inl ⟨by rfl, ?_⟩) hHeld ?_ ?_
                      rotate_left
                      · rintro w' ⟨s0, s1, s2, s3, s4, s5, s6, s7, s8, s9⟩
                        go_simp
                        with_reducible rfl
                      rotate_left
                      · simp only [Act.put, List.setIfInBounds_toArray, List.set_cons_zero, List.set_cons_succ, i64_w, i32_w]
                        rfl
                      refine one_ (i := 8) (N := some 67) #[true, true, true, true, true, true, true, true, true, true, false, false, false, false] rfl rfl (one_of HT_.out (by kernel_rfl)) (by decide) (fun K hK => ?_)
                      refine goes_ Try.func21 (by kernel_rfl) rfl #[.agg #[.int .i64 ((rd_T35 t368 (ji18)).f0), .int .i64 ((rd_T35 t368 (ji18)).f1.f0), .int .i64 ((rd_T35 t368 (ji18)).f1.f1), .int .i64 ((rd_T35 t368 (ji18)).f2.f0), .int .i64 ((rd_T35 t368 (ji18)).f2.f1)]] (by rfl) rfl rfl (by (try simp only [List.map_toArray, List.map_cons, List.map_nil]); rfl) ?_
                      with_reducible refine (formeref03_First.calls ((rd_T35 t368 (ji18)).f0) ((rd_T35 t368 (ji18)).f1.f0) ((rd_T35 t368 (ji18)).f1.f1) ((rd_T35 t368 (ji18)).f2.f0) ((rd_T35 t368 (ji18)).f2.f1) t379 t380 t381 _ A21.out).mono ?_
                      rintro e w29 ⟨rfl, hb⟩
                      have HS5_ := (hb.cell (World.block_lt_of_cell? _ _ (hHeld.2.2.2.2.2.1))).trans (hHeld.2.2.2.2.2.1)
                      have HS6_ := (hb.cell (World.block_lt_of_cell? _ _ (hHeld.2.2.2.2.2.2.1))).trans (hHeld.2.2.2.2.2.2.1)
                      have HS7_ := (hb.cell (World.block_lt_of_cell? _ _ (hHeld.2.2.2.2.2.2.2.1))).trans (hHeld.2.2.2.2.2.2.2.1)
                      have HS8_ := (hb.cell (World.block_lt_of_cell? _ _ (hHeld.2.2.2.2.2.2.2.2.1))).trans (hHeld.2.2.2.2.2.2.2.2.1)
                      have HS9_ := (hb.cell (World.block_lt_of_cell? _ _ (hHeld.2.2.2.2.2.2.2.2.2))).trans (hHeld.2.2.2.2.2.2.2.2.2)
                      refine ⟨_, rfl, ?_⟩
                      have n0_ := Aside0.mk (Kd.R_below (by (with_reducible repeat (fail)); exact HO_4.out) hb)
                      have n1_ := Aside0.mk (Kd.R_below (by (with_reducible repeat (fail)); exact HO_33.out) hb)
                      have n2_ := Aside0.mk (blk_below (g := gb377) (o := .cells #[.int .i64 ((rd_T35 t368 x35_1).f0), .int .i64 ((rd_T35 t368 x35_1).f1.f0), .int .i64 ((rd_T35 t368 x35_1).f1.f1), .int .i64 ((rd_T35 t368 x35_1).f2.f0), .int .i64 ((rd_T35 t368 x35_1).f2.f1)] 35 (0, 0)) (by (with_reducible repeat (fail)); exact BK377.out) hb)
                      have n3_ := Aside0.mk (below_step (by repeat ((with_reducible exact HB.out))) hb)
                      clear HO_4
                      clear HO_33
                      clear BK377
                      clear HB
                      have HO_4 := n0_
                      have HO_33 := n1_
                      have BK377 := n2_
                      have HB := n3_
                      clear n0_ n1_ n2_ n3_
                      (try clear hb)
                      (skip)
                      (skip)
                      (skip)
                      refine hK.out _ _ ⟨(blk_cell BK377.out 0).trans rfl, (blk_cell BK377.out 1).trans rfl, (blk_cell BK377.out 2).trans rfl, (blk_cell BK377.out 3).trans rfl, (blk_cell BK377.out 4).trans rfl, HS5_, HS6_, HS7_, HS8_, HS9_⟩ (fun hHeld => ?_)
                      clear hK K
                      refine norm_ (a' := ?_) ?_ ?_
                      rotate_left
                      · show Act.put _ (some 67) _ = _
                        simp only [Act.put, List.setIfInBounds_toArray, List.set_cons_zero, List.set_cons_succ, i64_w, i32_w]
                        rfl
                      refine one_ (i := 10) (N := some 69) #[true, true, true, true, true, true, true, true, true, true, true, false, false, false] rfl rfl (one_of HT_.out (by kernel_rfl)) (by decide) (fun K hK => ?_)
                      refine goes_ Try.func21 (by kernel_rfl) rfl #[.agg #[.int .i64 ((rd_T35 t368 x35_1).f0), .int .i64 ((rd_T35 t368 x35_1).f1.f0), .int .i64 ((rd_T35 t368 x35_1).f1.f1), .int .i64 ((rd_T35 t368 x35_1).f2.f0), .int .i64 ((rd_T35 t368 x35_1).f2.f1)]] (by rfl) rfl rfl (by (try simp only [List.map_toArray, List.map_cons, List.map_nil]); rfl) ?_
                      with_reducible refine (formeref03_First.calls ((rd_T35 t368 x35_1).f0) ((rd_T35 t368 x35_1).f1.f0) ((rd_T35 t368 x35_1).f1.f1) ((rd_T35 t368 x35_1).f2.f0) ((rd_T35 t368 x35_1).f2.f1) t382 t383 t384 _ A22.out).mono ?_
                      rintro e w30 ⟨rfl, hb⟩
                      have HS5_ := (hb.cell (World.block_lt_of_cell? _ _ (hHeld.2.2.2.2.2.1))).trans (hHeld.2.2.2.2.2.1)
                      have HS6_ := (hb.cell (World.block_lt_of_cell? _ _ (hHeld.2.2.2.2.2.2.1))).trans (hHeld.2.2.2.2.2.2.1)
                      have HS7_ := (hb.cell (World.block_lt_of_cell? _ _ (hHeld.2.2.2.2.2.2.2.1))).trans (hHeld.2.2.2.2.2.2.2.1)
                      have HS8_ := (hb.cell (World.block_lt_of_cell? _ _ (hHeld.2.2.2.2.2.2.2.2.1))).trans (hHeld.2.2.2.2.2.2.2.2.1)
                      have HS9_ := (hb.cell (World.block_lt_of_cell? _ _ (hHeld.2.2.2.2.2.2.2.2.2))).trans (hHeld.2.2.2.2.2.2.2.2.2)
                      refine ⟨_, rfl, ?_⟩
                      have n0_ := Aside0.mk (Kd.R_below (by (with_reducible repeat (fail)); exact HO_4.out) hb)
                      have n1_ := Aside0.mk (Kd.R_below (by (with_reducible repeat (fail)); exact HO_33.out) hb)
                      have n2_ := Aside0.mk (blk_below (g := gb377) (o := .cells #[.int .i64 ((rd_T35 t368 x35_1).f0), .int .i64 ((rd_T35 t368 x35_1).f1.f0), .int .i64 ((rd_T35 t368 x35_1).f1.f1), .int .i64 ((rd_T35 t368 x35_1).f2.f0), .int .i64 ((rd_T35 t368 x35_1).f2.f1)] 35 (0, 0)) (by (with_reducible repeat (fail)); exact BK377.out) hb)
                      have n3_ := Aside0.mk (below_step (by repeat ((with_reducible exact HB.out))) hb)
                      clear HO_4
                      clear HO_33
                      clear BK377
                      clear HB
                      have HO_4 := n0_
                      have HO_33 := n1_
                      have BK377 := n2_
                      have HB := n3_
                      clear n0_ n1_ n2_ n3_
                      (try clear hb)
                      (skip)
                      (skip)
                      (skip)
                      refine hK.out _ _ ⟨(blk_cell BK377.out 0).trans rfl, (blk_cell BK377.out 1).trans rfl, (blk_cell BK377.out 2).trans rfl, (blk_cell BK377.out 3).trans rfl, (blk_cell BK377.out 4).trans rfl, HS5_, HS6_, HS7_, HS8_, HS9_⟩ (fun hHeld => ?_)
                      clear hK K
                      refine norm_ (a' := ?_) ?_ ?_
                      rotate_left
                      · show Act.put _ (some 69) _ = _
                        simp only [Act.put, List.setIfInBounds_toArray, List.set_cons_zero, List.set_cons_succ, i64_w, i32_w]
                        rfl
                      refine one_ (i := 11) (N := some 70) #[true, true, true, true, true, true, true, true, true, true, true, true, false, false] rfl rfl (one_of HT_.out (by kernel_rfl)) (by decide) (fun K hK => ?_)
                      refine goes_ Try.func19 (by kernel_rfl) rfl #[.agg #[.int .i64 t379, .int .i64 t380, .int .i64 t381], .agg #[.int .i64 t382, .int .i64 t383, .int .i64 t384]] (by rfl) rfl rfl (by (try simp only [List.map_toArray, List.map_cons, List.map_nil]); rfl) ?_
                      with_reducible refine (formeref03_Before.calls t379 t380 t381 t382 t383 t384 true _ A23.out).mono ?_
                      rintro e w31 ⟨rfl, hb⟩
                      have HS5_ := (hb.cell (World.block_lt_of_cell? _ _ (hHeld.2.2.2.2.2.1))).trans (hHeld.2.2.2.2.2.1)
                      have HS6_ := (hb.cell (World.block_lt_of_cell? _ _ (hHeld.2.2.2.2.2.2.1))).trans (hHeld.2.2.2.2.2.2.1)
                      have HS7_ := (hb.cell (World.block_lt_of_cell? _ _ (hHeld.2.2.2.2.2.2.2.1))).trans (hHeld.2.2.2.2.2.2.2.1)
                      have HS8_ := (hb.cell (World.block_lt_of_cell? _ _ (hHeld.2.2.2.2.2.2.2.2.1))).trans (hHeld.2.2.2.2.2.2.2.2.1)
                      have HS9_ := (hb.cell (World.block_lt_of_cell? _ _ (hHeld.2.2.2.2.2.2.2.2.2))).trans (hHeld.2.2.2.2.2.2.2.2.2)
                      refine ⟨_, rfl, ?_⟩
                      have n0_ := Aside0.mk (Kd.R_below (by (with_reducible repeat (fail)); exact HO_4.out) hb)
                      have n1_ := Aside0.mk (Kd.R_below (by (with_reducible repeat (fail)); exact HO_33.out) hb)
                      have n2_ := Aside0.mk (blk_below (g := gb377) (o := .cells #[.int .i64 ((rd_T35 t368 x35_1).f0), .int .i64 ((rd_T35 t368 x35_1).f1.f0), .int .i64 ((rd_T35 t368 x35_1).f1.f1), .int .i64 ((rd_T35 t368 x35_1).f2.f0), .int .i64 ((rd_T35 t368 x35_1).f2.f1)] 35 (0, 0)) (by (with_reducible repeat (fail)); exact BK377.out) hb)
                      have n3_ := Aside0.mk (below_step (by repeat ((with_reducible exact HB.out))) hb)
                      clear HO_4
                      clear HO_33
                      clear BK377
                      clear HB
                      have HO_4 := n0_
                      have HO_33 := n1_
                      have BK377 := n2_
                      have HB := n3_
                      clear n0_ n1_ n2_ n3_
                      (try clear hb)
                      (skip)
                      (skip)
                      (skip)
                      refine hK.out _ _ ⟨(blk_cell BK377.out 0).trans rfl, (blk_cell BK377.out 1).trans rfl, (blk_cell BK377.out 2).trans rfl, (blk_cell BK377.out 3).trans rfl, (blk_cell BK377.out 4).trans rfl, HS5_, HS6_, HS7_, HS8_, HS9_⟩ (fun hHeld => ?_)
                      clear hK K
                      refine norm_ (a' := ?_) ?_ ?_
                      rotate_left
                      · show Act.put _ (some 70) _ = _
                        simp only [Act.put, List.setIfInBounds_toArray, List.set_cons_zero, List.set_cons_succ, i64_w, i32_w]
                        rfl
                      refine pure_ (i := 12) (N := some 71) (v := ?_) (a' := ?_) #[true, true, true, true, true, true, true, true, true, true, true, true, true, false] rfl rfl (any_of HT_.out (by kernel_rfl)) (fun _ _ _ h => h) (Or.inl ⟨by rfl, ?_⟩) ?_ ?_
                      rotate_left
                      · intro w'
                        go_simp
                        with_reducible rfl
                      rotate_left
                      · simp only [Act.put, List.setIfInBounds_toArray, List.set_cons_zero, List.set_cons_succ, i64_w, i32_w]
                        rfl
                      refine pure_ (i := 13) (N := some 72) (v := ?_) (a' := ?_) #[true, true, true, true, true, true, true, true, true, true, true, true, true, true] rfl rfl (any_of HT_.out (by kernel_rfl)) (fun _ _ _ h => h) (Or.inl ⟨by rfl, ?_⟩) ?_ ?_
                      rotate_left
                      · intro w'
                        go_simp
                        with_reducible rfl
                      rotate_left
                      · simp only [Act.put, List.setIfInBounds_toArray, List.set_cons_zero, List.set_cons_succ, i64_w, i32_w]
                        rfl
                      refine done_ (done_of HT_.out (by kernel_rfl)) ?_
                      try go_wp2
                      go_roundg k1
                      case measure => have := HK1.out; omega
                      case rel => exact ⟨(wrap64 (x10_1 + (wrap64 ((wrap64 ((wrap64 (((rd_T35 t368 x35_1).f1.f1) - ((rd_T35 t368 x35_1).f1.f0))) + 1)) * (wrap64 ((wrap64 (((rd_T35 t368 x35_1).f2.f1) - ((rd_T35 t368 x35_1).f2.f0))) + 1)))))), (wrap64 (x35_1 + 1)), (by rfl), (by rfl), H', ⟨by have := HK1.out; omega⟩, ⟨by (with_reducible repeat (fail)); exact Kd.R_mono HO_4.out (fun _ hk => trivial)⟩, ⟨by (with_reducible repeat (fail)); exact Kd.R_mono HO_33.out (fun _ hk => trivial)⟩, ⟨by repeat ((with_reducible exact HB.out))⟩⟩
                    · replace c24 := Bool.eq_false_iff.mpr c24
                      subst c24
                      have H1 : (some false) = some r := by rw [if_neg (show ¬ (false = true) by decide)] at H; exact H
                      clear H
                      have H := H1
                      clear H1
                      obtain rfl := Option.some.inj H
                      have p376 : 0 ≤ (x35_1 : Int) := of_decide_eq_true (by (with_reducible assumption))
                      have q376 : x35_1 < (t368.length : Int) := of_decide_eq_true (by (with_reducible assumption))
                      obtain ⟨ad376, e376, hx376_0, hx376_1, hx376_2, hx376_3, hx376_4⟩ := at_T35 (Kd.R_reads' HO_33.out).2.2 x35_1 p376 q376
                      cases e376
                      replace p376 := eq_true p376
                      replace q376 := eq_true q376
                      try go_wp2_with (((with_reducible refine gate_dst (N := 12) rfl ?_); refine box_event ?hg (N := 12) ?hd (cs := #[.int .i64 0, .int .i64 0, .int .i64 0, .int .i64 0, .int .i64 0]) (t := 35) ?hr ?_; (case hd => rfl); (case hg => rfl); (case hr => (go_simp; done)); intro gb377 hg w32 hbox hb; have n0_ := Aside0.mk (Kd.R_below (Kd.R_elderB (by (with_reducible repeat (fail)); exact HO_4.out) gb377 (Nat.le_of_eq hg.symm)) hb); have n1_ := Aside0.mk (Kd.R_below (Kd.R_elderB (by (with_reducible repeat (fail)); exact HO_33.out) gb377 (Nat.le_of_eq hg.symm)) hb); have n2_ := Aside0.mk (below_step (by repeat ((with_reducible exact HB.out))) hb); have n3_ := Aside0.mk (hbox); have n4_ := Aside0.mk ((by rw [hg]; exact (below_size (by repeat ((with_reducible exact HB.out)))) : w.heap.size ≤ gb377)); have n5_ := Aside0.mk ((by rw [hg]; exact (below_size (by repeat ((with_reducible exact HB.out)))) : w.heap.size ≤ gb377)); clear HO_4; clear HO_33; clear HB; have HO_4 := n0_; have HO_33 := n1_; have HB := n2_; have BK377 := n3_; have GW377 := n4_; have GE377 := n5_; clear n0_ n1_ n2_ n3_ n4_ n5_; clear hb hbox hg; have hcz33_0 : w32.cell? ⟨gb377, 0, none⟩ = some (.int .i64 0) := (blk_cell BK377.out 0).trans rfl; have hcz33_1 : w32.cell? ⟨gb377, 1, none⟩ = some (.int .i64 0) := (blk_cell BK377.out 1).trans rfl; have hcz33_2 : w32.cell? ⟨gb377, 2, none⟩ = some (.int .i64 0) := (blk_cell BK377.out 2).trans rfl; have hcz33_3 : w32.cell? ⟨gb377, 3, none⟩ = some (.int .i64 0) := (blk_cell BK377.out 3).trans rfl; have hcz33_4 : w32.cell? ⟨gb377, 4, none⟩ = some (.int .i64 0) := (blk_cell BK377.out 4).trans rfl; have hfz33_0 := blk_frozen BK377.out 0; have hfz33_1 := blk_frozen BK377.out 1; have hfz33_2 := blk_frozen BK377.out 2; have hfz33_3 := blk_frozen BK377.out 3; have hfz33_4 := blk_frozen BK377.out 4))
                      have n0_ : Aside0 (Kd.R k35 35 (((((w32.setCell ⟨gb377, 0, none⟩ (.int .i64 ((rd_T35 t368 x35_1).f0))).setCell ⟨gb377, 1, none⟩ (.int .i64 ((rd_T35 t368 x35_1).f1.f0))).setCell ⟨gb377, 2, none⟩ (.int .i64 ((rd_T35 t368 x35_1).f1.f1))).setCell ⟨gb377, 3, none⟩ (.int .i64 ((rd_T35 t368 x35_1).f2.f0))).setCell ⟨gb377, 4, none⟩ (.int .i64 ((rd_T35 t368 x35_1).f2.f1))) w.heap.size (fun k_ => k_ ≠ gb377) (.slice (some ad376) t368.length co12) t368) := ⟨by (with_reducible repeat (fail)); exact Kd.R_mono (Kd.R_far (p := ⟨gb377, 4, none⟩) (Kd.R_far (p := ⟨gb377, 3, none⟩) (Kd.R_far (p := ⟨gb377, 2, none⟩) (Kd.R_far (p := ⟨gb377, 1, none⟩) (Kd.R_far (p := ⟨gb377, 0, none⟩) (Kd.R_mono HO_4.out (fun k_ hk => (⟨hk, hk.2⟩ : _ ∧ k_ ≠ gb377))) (fun _ hk => hk.2) (.int .i64 ((rd_T35 t368 x35_1).f0))) (fun _ hk => hk.2) (.int .i64 ((rd_T35 t368 x35_1).f1.f0))) (fun _ hk => hk.2) (.int .i64 ((rd_T35 t368 x35_1).f1.f1))) (fun _ hk => hk.2) (.int .i64 ((rd_T35 t368 x35_1).f2.f0))) (fun _ hk => hk.2) (.int .i64 ((rd_T35 t368 x35_1).f2.f1))) (fun _ hk => hk.1.2)⟩
                      have n1_ : Aside0 (Kd.R k35 35 (((((w32.setCell ⟨gb377, 0, none⟩ (.int .i64 ((rd_T35 t368 x35_1).f0))).setCell ⟨gb377, 1, none⟩ (.int .i64 ((rd_T35 t368 x35_1).f1.f0))).setCell ⟨gb377, 2, none⟩ (.int .i64 ((rd_T35 t368 x35_1).f1.f1))).setCell ⟨gb377, 3, none⟩ (.int .i64 ((rd_T35 t368 x35_1).f2.f0))).setCell ⟨gb377, 4, none⟩ (.int .i64 ((rd_T35 t368 x35_1).f2.f1))) w.heap.size (fun k_ => k_ ≠ gb377) (.slice (some ad376) t368.length co12) t368) := ⟨by (with_reducible repeat (fail)); exact Kd.R_mono (Kd.R_far (p := ⟨gb377, 4, none⟩) (Kd.R_far (p := ⟨gb377, 3, none⟩) (Kd.R_far (p := ⟨gb377, 2, none⟩) (Kd.R_far (p := ⟨gb377, 1, none⟩) (Kd.R_far (p := ⟨gb377, 0, none⟩) (Kd.R_mono HO_33.out (fun k_ hk => (⟨hk, hk.2⟩ : _ ∧ k_ ≠ gb377))) (fun _ hk => hk.2) (.int .i64 ((rd_T35 t368 x35_1).f0))) (fun _ hk => hk.2) (.int .i64 ((rd_T35 t368 x35_1).f1.f0))) (fun _ hk => hk.2) (.int .i64 ((rd_T35 t368 x35_1).f1.f1))) (fun _ hk => hk.2) (.int .i64 ((rd_T35 t368 x35_1).f2.f0))) (fun _ hk => hk.2) (.int .i64 ((rd_T35 t368 x35_1).f2.f1))) (fun _ hk => hk.1.2)⟩
                      have n2_ : Aside0 ((((((w32.setCell ⟨gb377, 0, none⟩ (.int .i64 ((rd_T35 t368 x35_1).f0))).setCell ⟨gb377, 1, none⟩ (.int .i64 ((rd_T35 t368 x35_1).f1.f0))).setCell ⟨gb377, 2, none⟩ (.int .i64 ((rd_T35 t368 x35_1).f1.f1))).setCell ⟨gb377, 3, none⟩ (.int .i64 ((rd_T35 t368 x35_1).f2.f0))).setCell ⟨gb377, 4, none⟩ (.int .i64 ((rd_T35 t368 x35_1).f2.f1))).heap[gb377]? = some (.cells #[.int .i64 ((rd_T35 t368 x35_1).f0), .int .i64 ((rd_T35 t368 x35_1).f1.f0), .int .i64 ((rd_T35 t368 x35_1).f1.f1), .int .i64 ((rd_T35 t368 x35_1).f2.f0), .int .i64 ((rd_T35 t368 x35_1).f2.f1)] 35 (0, 0))) := ⟨by (with_reducible repeat (fail)); refine blk_put (cs := #[.int .i64 ((rd_T35 t368 x35_1).f0), .int .i64 ((rd_T35 t368 x35_1).f1.f0), .int .i64 ((rd_T35 t368 x35_1).f1.f1), .int .i64 ((rd_T35 t368 x35_1).f2.f0), .int .i64 0]) ?_ 4 _ rfl; (with_reducible repeat (fail)); refine blk_put (cs := #[.int .i64 ((rd_T35 t368 x35_1).f0), .int .i64 ((rd_T35 t368 x35_1).f1.f0), .int .i64 ((rd_T35 t368 x35_1).f1.f1), .int .i64 0, .int .i64 0]) ?_ 3 _ rfl; (with_reducible repeat (fail)); refine blk_put (cs := #[.int .i64 ((rd_T35 t368 x35_1).f0), .int .i64 ((rd_T35 t368 x35_1).f1.f0), .int .i64 0, .int .i64 0, .int .i64 0]) ?_ 2 _ rfl; (with_reducible repeat (fail)); refine blk_put (cs := #[.int .i64 ((rd_T35 t368 x35_1).f0), .int .i64 0, .int .i64 0, .int .i64 0, .int .i64 0]) ?_ 1 _ rfl; (with_reducible repeat (fail)); refine blk_put (cs := #[.int .i64 0, .int .i64 0, .int .i64 0, .int .i64 0, .int .i64 0]) ?_ 0 _ rfl; (with_reducible repeat (fail)); exact BK377.out⟩
                      have n3_ : Aside0 (Below w.heap.size w (((((w32.setCell ⟨gb377, 0, none⟩ (.int .i64 ((rd_T35 t368 x35_1).f0))).setCell ⟨gb377, 1, none⟩ (.int .i64 ((rd_T35 t368 x35_1).f1.f0))).setCell ⟨gb377, 2, none⟩ (.int .i64 ((rd_T35 t368 x35_1).f1.f1))).setCell ⟨gb377, 3, none⟩ (.int .i64 ((rd_T35 t368 x35_1).f2.f0))).setCell ⟨gb377, 4, none⟩ (.int .i64 ((rd_T35 t368 x35_1).f2.f1)))) := ⟨by repeat ((with_reducible first | exact HB.out | refine below_set ?_ GE377.out))⟩
                      (try clear HO_4)
                      (try clear HO_33)
                      (try clear BK377)
                      (try clear HB)
                      generalize (((((w32.setCell ⟨gb377, 0, none⟩ (.int .i64 ((rd_T35 t368 x35_1).f0))).setCell ⟨gb377, 1, none⟩ (.int .i64 ((rd_T35 t368 x35_1).f1.f0))).setCell ⟨gb377, 2, none⟩ (.int .i64 ((rd_T35 t368 x35_1).f1.f1))).setCell ⟨gb377, 3, none⟩ (.int .i64 ((rd_T35 t368 x35_1).f2.f0))).setCell ⟨gb377, 4, none⟩ (.int .i64 ((rd_T35 t368 x35_1).f2.f1))) = w34 at n0_ n1_ n2_ n3_ ⊢
                      have HO_4 := n0_
                      have HO_33 := n1_
                      have BK377 := n2_
                      have HB := n3_
                      clear n0_ n1_ n2_ n3_
                      have n0_ := Aside0.mk (Kd.R_drew HO_4.out)
                      have n1_ := Aside0.mk (Kd.R_drew HO_33.out)
                      have n2_ := Aside0.mk (blk_drew BK377.out)
                      have n3_ := Aside0.mk (below_drew1 HB.out)
                      clear HO_4
                      clear HO_33
                      clear BK377
                      clear HB
                      have HO_4 := n0_
                      have HO_33 := n1_
                      have BK377 := n2_
                      have HB := n3_
                      clear n0_ n1_ n2_ n3_
                      have p378 : 0 ≤ ((ji18) : Int) := of_decide_eq_true (by (with_reducible assumption))
                      have q378 : (ji18) < (t368.length : Int) := of_decide_eq_true (by (with_reducible assumption))
                      obtain ⟨ad378, e378, hx378_0, hx378_1, hx378_2, hx378_3, hx378_4⟩ := at_T35 (Kd.R_reads' HO_4.out).2.2 (ji18) p378 q378
                      obtain rfl : ad376 = ad378 := (by injection e378)
                      replace p378 := eq_true p378
                      replace q378 := eq_true q378
                      refine start_ (n := 14) (S := fun w' => w'.cell? ⟨gb377, 0, none⟩ = some (.int .i64 ((rd_T35 t368 x35_1).f0)) ∧ w'.cell? ⟨gb377, 1, none⟩ = some (.int .i64 ((rd_T35 t368 x35_1).f1.f0)) ∧ w'.cell? ⟨gb377, 2, none⟩ = some (.int .i64 ((rd_T35 t368 x35_1).f1.f1)) ∧ w'.cell? ⟨gb377, 3, none⟩ = some (.int .i64 ((rd_T35 t368 x35_1).f2.f0)) ∧ w'.cell? ⟨gb377, 4, none⟩ = some (.int .i64 ((rd_T35 t368 x35_1).f2.f1)) ∧ w'.cell? (ad376.add (((ji18)).toNat * 5)) = some (.int .i64 ((rd_T35 t368 (ji18)).f0)) ∧ w'.cell? ⟨(ad376.add (((ji18)).toNat * 5)).block, (ad376.add (((ji18)).toNat * 5)).off + 1, none⟩ = some (.int .i64 ((rd_T35 t368 (ji18)).f1.f0)) ∧ w'.cell? ⟨(ad376.add (((ji18)).toNat * 5)).block, (ad376.add (((ji18)).toNat * 5)).off + 2, none⟩ = some (.int .i64 ((rd_T35 t368 (ji18)).f1.f1)) ∧ w'.cell? ⟨(ad376.add (((ji18)).toNat * 5)).block, (ad376.add (((ji18)).toNat * 5)).off + 3, none⟩ = some (.int .i64 ((rd_T35 t368 (ji18)).f2.f0)) ∧ w'.cell? ⟨(ad376.add (((ji18)).toNat * 5)).block, (ad376.add (((ji18)).toNat * 5)).off + 4, none⟩ = some (.int .i64 ((rd_T35 t368 (ji18)).f2.f1))) (ds := []) #[false, false, false, false, false, false, false, false, false, false, false, false, false, false] (by kernel_rfl) rfl rfl ⟨(blk_cell BK377.out 0).trans rfl, (blk_cell BK377.out 1).trans rfl, (blk_cell BK377.out 2).trans rfl, (blk_cell BK377.out 3).trans rfl, (blk_cell BK377.out 4).trans rfl, hx378_0, hx378_1, hx378_2, hx378_3, hx378_4⟩ (fun hHeld => ?_); refine with_tabW formelaw03_ZoneCount.tab12 formelaw03_ZoneCount.bits12 (fun HT_ HW_ => ?_)
                      generalize w34.drew = w35 at HO_4 HO_33 BK377 HB hx378_0 hx378_1 hx378_2 hx378_3 hx378_4 hHeld ⊢
                      refine pure_ (i := 0) (N := some 59) (v := ?_) (a' := ?_) #[true, false, false, false, false, false, false, false, false, false, false, false, false, false] rfl rfl (any_of HT_.out (by kernel_rfl)) (fun _ _ _ h => h) (Or.inl ⟨by rfl, ?_⟩) ?_ ?_
                      rotate_left
                      · intro w'
                        go_simp
                        with_reducible rfl
                      rotate_left
                      · simp only [Act.put, List.setIfInBounds_toArray, List.set_cons_zero, List.set_cons_succ, i64_w, i32_w]
                        rfl
                      refine pure_ (i := 1) (N := some 60) (v := ?_) (a' := ?_) #[true, true, false, false, false, false, false, false, false, false, false, false, false, false] rfl rfl (any_of HT_.out (by kernel_rfl)) (fun _ _ _ h => h) (Or.inl ⟨by rfl, ?_⟩) ?_ ?_
                      rotate_left
                      · intro w'
                        go_simp
                        with_reducible rfl
                      rotate_left
                      · simp only [Act.put, List.setIfInBounds_toArray, List.set_cons_zero, List.set_cons_succ, i64_w, i32_w]
                        rfl
                      refine pure_ (i := 2) (N := some 61) (v := ?_) (a' := ?_) #[true, true, true, false, false, false, false, false, false, false, false, false, false, false] rfl rfl (any_of HT_.out (by kernel_rfl)) (fun _ _ _ h => h) (Or.inl ⟨by rfl, ?_⟩) ?_ ?_
                      rotate_left
                      · intro w'
                        go_simp
                        with_reducible rfl
                      rotate_left
                      · simp only [Act.put, List.setIfInBounds_toArray, List.set_cons_zero, List.set_cons_succ, i64_w, i32_w]
                        rfl
                      refine pure_ (i := 3) (N := some 62) (v := ?_) (a' := ?_) #[true, true, true, true, false, false, false, false, false, false, false, false, false, false] rfl rfl (any_of HT_.out (by kernel_rfl)) (fun _ _ _ h => h) (Or.inl ⟨by rfl, ?_⟩) ?_ ?_
                      rotate_left
                      · intro w'
                        go_simp
                        with_reducible rfl
                      rotate_left
                      · simp only [Act.put, List.setIfInBounds_toArray, List.set_cons_zero, List.set_cons_succ, i64_w, i32_w]
                        rfl
                      refine pure_ (i := 4) (N := some 63) (v := ?_) (a' := ?_) #[true, true, true, true, true, false, false, false, false, false, false, false, false, false] rfl rfl (any_of HT_.out (by kernel_rfl)) (fun _ _ _ h => h) (Or.inl ⟨by rfl, ?_⟩) ?_ ?_
                      rotate_left
                      · intro w'
                        go_simp
                        with_reducible rfl
                      rotate_left
                      · simp only [Act.put, List.setIfInBounds_toArray, List.set_cons_zero, List.set_cons_succ, i64_w, i32_w]
                        rfl
                      refine pure_ (i := 5) (N := some 64) (v := ?_) (a' := ?_) #[true, true, true, true, true, true, false, false, false, false, false, false, false, false] rfl rfl (any_of HT_.out (by kernel_rfl)) (fun _ _ _ h => h) (Or.inl ⟨by rfl, ?_⟩) ?_ ?_
                      rotate_left
                      · intro w'
                        go_simp
                        with_reducible rfl
                      rotate_left
                      · simp only [Act.put, List.setIfInBounds_toArray, List.set_cons_zero, List.set_cons_succ, i64_w, i32_w]
                        rfl
                      refine pure_ (i := 6) (N := some 65) (v := ?_) (a' := ?_) #[true, true, true, true, true, true, true, false, false, false, false, false, false, false] rfl rfl (any_of HT_.out (by kernel_rfl)) (fun _ _ _ h => h) (Or.inl ⟨by rfl, ?_⟩) ?_ ?_
                      rotate_left
                      · intro w'
                        go_simp
                        with_reducible rfl
                      rotate_left
                      · simp only [Act.put, List.setIfInBounds_toArray, List.set_cons_zero, List.set_cons_succ, i64_w, i32_w]
                        rfl
                      refine take_ (i := 7) (N := some 66) (v := ?_) (a' := ?_) #[true, true, true, true, true, true, true, true, false, false, false, false, false, false] rfl rfl (take_ofW HT_.out HW_.out (by kernel_rfl)) (fun _ _ _ h => h) (Or.inl ⟨by rfl, ?_⟩) hHeld ?_ ?_
                      rotate_left
                      · rintro w' ⟨s0, s1, s2, s3, s4, s5, s6, s7, s8, s9⟩
                        go_simp
                        with_reducible rfl
                      rotate_left
                      · simp only [Act.put, List.setIfInBounds_toArray, List.set_cons_zero, List.set_cons_succ, i64_w, i32_w]
                        rfl
                      refine take_ (i := 9) (N := some 68) (v := ?_) (a' := ?_) #[true, true, true, true, true, true, true, true, false, true, false, false, false, false] rfl rfl (take_ofW HT_.out HW_.out (by kernel_rfl)) (fun _ _ _ h => h) (Or.inl ⟨by rfl, ?_⟩) hHeld ?_ ?_
                      rotate_left
                      · rintro w' ⟨s0, s1, s2, s3, s4, s5, s6, s7, s8, s9⟩
                        go_simp
                        with_reducible rfl
                      rotate_left
                      · simp only [Act.put, List.setIfInBounds_toArray, List.set_cons_zero, List.set_cons_succ, i64_w, i32_w]
                        rfl
                      refine one_ (i := 8) (N := some 67) #[true, true, true, true, true, true, true, true, true, true, false, false, false, false] rfl rfl (one_of HT_.out (by kernel_rfl)) (by decide) (fun K hK => ?_)
                      refine goes_ Try.func21 (by kernel_rfl) rfl #[.agg #[.int .i64 ((rd_T35 t368 (ji18)).f0), .int .i64 ((rd_T35 t368 (ji18)).f1.f0), .int .i64 ((rd_T35 t368 (ji18)).f1.f1), .int .i64 ((rd_T35 t368 (ji18)).f2.f0), .int .i64 ((rd_T35 t368 (ji18)).f2.f1)]] (by rfl) rfl rfl (by (try simp only [List.map_toArray, List.map_cons, List.map_nil]); rfl) ?_
                      with_reducible refine (formeref03_First.calls ((rd_T35 t368 (ji18)).f0) ((rd_T35 t368 (ji18)).f1.f0) ((rd_T35 t368 (ji18)).f1.f1) ((rd_T35 t368 (ji18)).f2.f0) ((rd_T35 t368 (ji18)).f2.f1) t379 t380 t381 _ A21.out).mono ?_
                      rintro e w36 ⟨rfl, hb⟩
                      have HS5_ := (hb.cell (World.block_lt_of_cell? _ _ (hHeld.2.2.2.2.2.1))).trans (hHeld.2.2.2.2.2.1)
                      have HS6_ := (hb.cell (World.block_lt_of_cell? _ _ (hHeld.2.2.2.2.2.2.1))).trans (hHeld.2.2.2.2.2.2.1)
                      have HS7_ := (hb.cell (World.block_lt_of_cell? _ _ (hHeld.2.2.2.2.2.2.2.1))).trans (hHeld.2.2.2.2.2.2.2.1)
                      have HS8_ := (hb.cell (World.block_lt_of_cell? _ _ (hHeld.2.2.2.2.2.2.2.2.1))).trans (hHeld.2.2.2.2.2.2.2.2.1)
                      have HS9_ := (hb.cell (World.block_lt_of_cell? _ _ (hHeld.2.2.2.2.2.2.2.2.2))).trans (hHeld.2.2.2.2.2.2.2.2.2)
                      refine ⟨_, rfl, ?_⟩
                      have n0_ := Aside0.mk (Kd.R_below (by (with_reducible repeat (fail)); exact HO_4.out) hb)
                      have n1_ := Aside0.mk (Kd.R_below (by (with_reducible repeat (fail)); exact HO_33.out) hb)
                      have n2_ := Aside0.mk (blk_below (g := gb377) (o := .cells #[.int .i64 ((rd_T35 t368 x35_1).f0), .int .i64 ((rd_T35 t368 x35_1).f1.f0), .int .i64 ((rd_T35 t368 x35_1).f1.f1), .int .i64 ((rd_T35 t368 x35_1).f2.f0), .int .i64 ((rd_T35 t368 x35_1).f2.f1)] 35 (0, 0)) (by (with_reducible repeat (fail)); exact BK377.out) hb)
                      have n3_ := Aside0.mk (below_step (by repeat ((with_reducible exact HB.out))) hb)
                      clear HO_4
                      clear HO_33
                      clear BK377
                      clear HB
                      have HO_4 := n0_
                      have HO_33 := n1_
                      have BK377 := n2_
                      have HB := n3_
                      clear n0_ n1_ n2_ n3_
                      (try clear hb)
                      (skip)
                      (skip)
                      (skip)
                      refine hK.out _ _ ⟨(blk_cell BK377.out 0).trans rfl, (blk_cell BK377.out 1).trans rfl, (blk_cell BK377.out 2).trans rfl, (blk_cell BK377.out 3).trans rfl, (blk_cell BK377.out 4).trans rfl, HS5_, HS6_, HS7_, HS8_, HS9_⟩ (fun hHeld => ?_)
                      clear hK K
                      refine norm_ (a' := ?_) ?_ ?_
                      rotate_left
                      · show Act.put _ (some 67) _ = _
                        simp only [Act.put, List.setIfInBounds_toArray, List.set_cons_zero, List.set_cons_succ, i64_w, i32_w]
                        rfl
                      refine one_ (i := 10) (N := some 69) #[true, true, true, true, true, true, true, true, true, true, true, false, false, false] rfl rfl (one_of HT_.out (by kernel_rfl)) (by decide) (fun K hK => ?_)
                      refine goes_ Try.func21 (by kernel_rfl) rfl #[.agg #[.int .i64 ((rd_T35 t368 x35_1).f0), .int .i64 ((rd_T35 t368 x35_1).f1.f0), .int .i64 ((rd_T35 t368 x35_1).f1.f1), .int .i64 ((rd_T35 t368 x35_1).f2.f0), .int .i64 ((rd_T35 t368 x35_1).f2.f1)]] (by rfl) rfl rfl (by (try simp only [List.map_toArray, List.map_cons, List.map_nil]); rfl) ?_
                      with_reducible refine (formeref03_First.calls ((rd_T35 t368 x35_1).f0) ((rd_T35 t368 x35_1).f1.f0) ((rd_T35 t368 x35_1).f1.f1) ((rd_T35 t368 x35_1).f2.f0) ((rd_T35 t368 x35_1).f2.f1) t382 t383 t384 _ A22.out).mono ?_
                      rintro e w37 ⟨rfl, hb⟩
                      have HS5_ := (hb.cell (World.block_lt_of_cell? _ _ (hHeld.2.2.2.2.2.1))).trans (hHeld.2.2.2.2.2.1)
                      have HS6_ := (hb.cell (World.block_lt_of_cell? _ _ (hHeld.2.2.2.2.2.2.1))).trans (hHeld.2.2.2.2.2.2.1)
                      have HS7_ := (hb.cell (World.block_lt_of_cell? _ _ (hHeld.2.2.2.2.2.2.2.1))).trans (hHeld.2.2.2.2.2.2.2.1)
                      have HS8_ := (hb.cell (World.block_lt_of_cell? _ _ (hHeld.2.2.2.2.2.2.2.2.1))).trans (hHeld.2.2.2.2.2.2.2.2.1)
                      have HS9_ := (hb.cell (World.block_lt_of_cell? _ _ (hHeld.2.2.2.2.2.2.2.2.2))).trans (hHeld.2.2.2.2.2.2.2.2.2)
                      refine ⟨_, rfl, ?_⟩
                      have n0_ := Aside0.mk (Kd.R_below (by (with_reducible repeat (fail)); exact HO_4.out) hb)
                      have n1_ := Aside0.mk (Kd.R_below (by (with_reducible repeat (fail)); exact HO_33.out) hb)
                      have n2_ := Aside0.mk (blk_below (g := gb377) (o := .cells #[.int .i64 ((rd_T35 t368 x35_1).f0), .int .i64 ((rd_T35 t368 x35_1).f1.f0), .int .i64 ((rd_T35 t368 x35_1).f1.f1), .int .i64 ((rd_T35 t368 x35_1).f2.f0), .int .i64 ((rd_T35 t368 x35_1).f2.f1)] 35 (0, 0)) (by (with_reducible repeat (fail)); exact BK377.out) hb)
                      have n3_ := Aside0.mk (below_step (by repeat ((with_reducible exact HB.out))) hb)
                      clear HO_4
                      clear HO_33
                      clear BK377
                      clear HB
                      have HO_4 := n0_
                      have HO_33 := n1_
                      have BK377 := n2_
                      have HB := n3_
                      clear n0_ n1_ n2_ n3_
                      (try clear hb)
                      (skip)
                      (skip)
                      (skip)
                      refine hK.out _ _ ⟨(blk_cell BK377.out 0).trans rfl, (blk_cell BK377.out 1).trans rfl, (blk_cell BK377.out 2).trans rfl, (blk_cell BK377.out 3).trans rfl, (blk_cell BK377.out 4).trans rfl, HS5_, HS6_, HS7_, HS8_, HS9_⟩ (fun hHeld => ?_)
                      clear hK K
                      refine norm_ (a' := ?_) ?_ ?_
                      rotate_left
                      · show Act.put _ (some 69) _ = _
                        simp only [Act.put, List.setIfInBounds_toArray, List.set_cons_zero, List.set_cons_succ, i64_w, i32_w]
                        rfl
                      refine one_ (i := 11) (N := some 70) #[true, true, true, true, true, true, true, true, true, true, true, true, false, false] rfl rfl (one_of HT_.out (by kernel_rfl)) (by decide) (fun K hK => ?_)
                      refine goes_ Try.func19 (by kernel_rfl) rfl #[.agg #[.int .i64 t379, .int .i64 t380, .int .i64 t381], .agg #[.int .i64 t382, .int .i64 t383, .int .i64 t384]] (by rfl) rfl rfl (by (try simp only [List.map_toArray, List.map_cons, List.map_nil]); rfl) ?_
                      with_reducible refine (formeref03_Before.calls t379 t380 t381 t382 t383 t384 false _ A23.out).mono ?_
                      rintro e w38 ⟨rfl, hb⟩
                      have HS5_ := (hb.cell (World.block_lt_of_cell? _ _ (hHeld.2.2.2.2.2.1))).trans (hHeld.2.2.2.2.2.1)
                      have HS6_ := (hb.cell (World.block_lt_of_cell? _ _ (hHeld.2.2.2.2.2.2.1))).trans (hHeld.2.2.2.2.2.2.1)
                      have HS7_ := (hb.cell (World.block_lt_of_cell? _ _ (hHeld.2.2.2.2.2.2.2.1))).trans (hHeld.2.2.2.2.2.2.2.1)
                      have HS8_ := (hb.cell (World.block_lt_of_cell? _ _ (hHeld.2.2.2.2.2.2.2.2.1))).trans (hHeld.2.2.2.2.2.2.2.2.1)
                      have HS9_ := (hb.cell (World.block_lt_of_cell? _ _ (hHeld.2.2.2.2.2.2.2.2.2))).trans (hHeld.2.2.2.2.2.2.2.2.2)
                      refine ⟨_, rfl, ?_⟩
                      have n0_ := Aside0.mk (Kd.R_below (by (with_reducible repeat (fail)); exact HO_4.out) hb)
                      have n1_ := Aside0.mk (Kd.R_below (by (with_reducible repeat (fail)); exact HO_33.out) hb)
                      have n2_ := Aside0.mk (blk_below (g := gb377) (o := .cells #[.int .i64 ((rd_T35 t368 x35_1).f0), .int .i64 ((rd_T35 t368 x35_1).f1.f0), .int .i64 ((rd_T35 t368 x35_1).f1.f1), .int .i64 ((rd_T35 t368 x35_1).f2.f0), .int .i64 ((rd_T35 t368 x35_1).f2.f1)] 35 (0, 0)) (by (with_reducible repeat (fail)); exact BK377.out) hb)
                      have n3_ := Aside0.mk (below_step (by repeat ((with_reducible exact HB.out))) hb)
                      clear HO_4
                      clear HO_33
                      clear BK377
                      clear HB
                      have HO_4 := n0_
                      have HO_33 := n1_
                      have BK377 := n2_
                      have HB := n3_
                      clear n0_ n1_ n2_ n3_
                      (try clear hb)
                      (skip)
                      (skip)
                      (skip)
                      refine hK.out _ _ ⟨(blk_cell BK377.out 0).trans rfl, (blk_cell BK377.out 1).trans rfl, (blk_cell BK377.out 2).trans rfl, (blk_cell BK377.out 3).trans rfl, (blk_cell BK377.out 4).trans rfl, HS5_, HS6_, HS7_, HS8_, HS9_⟩ (fun hHeld => ?_)
                      clear hK K
                      refine norm_ (a' := ?_) ?_ ?_
                      rotate_left
                      · show Act.put _ (some 70) _ = _
                        simp only [Act.put, List.setIfInBounds_toArray, List.set_cons_zero, List.set_cons_succ, i64_w, i32_w]
                        rfl
                      refine pure_ (i := 12) (N := some 71) (v := ?_) (a' := ?_) #[true, true, true, true, true, true, true, true, true, true, true, true, true, false] rfl rfl (any_of HT_.out (by kernel_rfl)) (fun _ _ _ h => h) (Or.inl ⟨by rfl, ?_⟩) ?_ ?_
                      rotate_left
                      · intro w'
                        go_simp
                        with_reducible rfl
                      rotate_left
                      · simp only [Act.put, List.setIfInBounds_toArray, List.set_cons_zero, List.set_cons_succ, i64_w, i32_w]
                        rfl
                      refine pure_ (i := 13) (N := some 72) (v := ?_) (a' := ?_) #[true, true, true, true, true, true, true, true, true, true, true, true, true, true] rfl rfl (any_of HT_.out (by kernel_rfl)) (fun _ _ _ h => h) (Or.inl ⟨by rfl, ?_⟩) ?_ ?_
                      rotate_left
                      · intro w'
                        go_simp
                        with_reducible rfl
                      rotate_left
                      · simp only [Act.put, List.setIfInBounds_toArray, List.set_cons_zero, List.set_cons_succ, i64_w, i32_w]
                        rfl
                      refine done_ (done_of HT_.out (by kernel_rfl)) ?_
                      try go_wp2
                      go_ret
                      exact ⟨by rfl, by repeat ((with_reducible exact HB.out))⟩
                  · rw [if_neg c20] at H
                    exact absurd H (by simp)
                · rw [if_neg c19] at H
                  exact absurd H (by simp)
              · rw [if_neg c17] at H
                have c17b0 : decide (0 < x35_1) = false := decide_eq_false c17
                clear c17
                have H' := Aside0.mk H
                clear H
                have p376 : 0 ≤ (x35_1 : Int) := of_decide_eq_true (by (with_reducible assumption))
                have q376 : x35_1 < (t368.length : Int) := of_decide_eq_true (by (with_reducible assumption))
                obtain ⟨ad376, e376, hx376_0, hx376_1, hx376_2, hx376_3, hx376_4⟩ := at_T35 (Kd.R_reads' HO_33.out).2.2 x35_1 p376 q376
                cases e376
                replace p376 := eq_true p376
                replace q376 := eq_true q376
                try go_wp2_with (((with_reducible refine gate_dst (N := 12) rfl ?_); refine box_event ?hg (N := 12) ?hd (cs := #[.int .i64 0, .int .i64 0, .int .i64 0, .int .i64 0, .int .i64 0]) (t := 35) ?hr ?_; (case hd => rfl); (case hg => rfl); (case hr => (go_simp; done)); intro gb377 hg w39 hbox hb; have n0_ := Aside0.mk (Kd.R_below (Kd.R_elderB (by (with_reducible repeat (fail)); exact HO_4.out) gb377 (Nat.le_of_eq hg.symm)) hb); have n1_ := Aside0.mk (Kd.R_below (Kd.R_elderB (by (with_reducible repeat (fail)); exact HO_33.out) gb377 (Nat.le_of_eq hg.symm)) hb); have n2_ := Aside0.mk (below_step (by repeat ((with_reducible exact HB.out))) hb); have n3_ := Aside0.mk (hbox); have n4_ := Aside0.mk ((by rw [hg]; exact (below_size (by repeat ((with_reducible exact HB.out)))) : w.heap.size ≤ gb377)); have n5_ := Aside0.mk ((by rw [hg]; exact (below_size (by repeat ((with_reducible exact HB.out)))) : w.heap.size ≤ gb377)); clear HO_4; clear HO_33; clear HB; have HO_4 := n0_; have HO_33 := n1_; have HB := n2_; have BK377 := n3_; have GW377 := n4_; have GE377 := n5_; clear n0_ n1_ n2_ n3_ n4_ n5_; clear hb hbox hg; have hcz40_0 : w39.cell? ⟨gb377, 0, none⟩ = some (.int .i64 0) := (blk_cell BK377.out 0).trans rfl; have hcz40_1 : w39.cell? ⟨gb377, 1, none⟩ = some (.int .i64 0) := (blk_cell BK377.out 1).trans rfl; have hcz40_2 : w39.cell? ⟨gb377, 2, none⟩ = some (.int .i64 0) := (blk_cell BK377.out 2).trans rfl; have hcz40_3 : w39.cell? ⟨gb377, 3, none⟩ = some (.int .i64 0) := (blk_cell BK377.out 3).trans rfl; have hcz40_4 : w39.cell? ⟨gb377, 4, none⟩ = some (.int .i64 0) := (blk_cell BK377.out 4).trans rfl; have hfz40_0 := blk_frozen BK377.out 0; have hfz40_1 := blk_frozen BK377.out 1; have hfz40_2 := blk_frozen BK377.out 2; have hfz40_3 := blk_frozen BK377.out 3; have hfz40_4 := blk_frozen BK377.out 4))
                have n0_ : Aside0 (Kd.R k35 35 (((((w39.setCell ⟨gb377, 0, none⟩ (.int .i64 ((rd_T35 t368 x35_1).f0))).setCell ⟨gb377, 1, none⟩ (.int .i64 ((rd_T35 t368 x35_1).f1.f0))).setCell ⟨gb377, 2, none⟩ (.int .i64 ((rd_T35 t368 x35_1).f1.f1))).setCell ⟨gb377, 3, none⟩ (.int .i64 ((rd_T35 t368 x35_1).f2.f0))).setCell ⟨gb377, 4, none⟩ (.int .i64 ((rd_T35 t368 x35_1).f2.f1))) w.heap.size (fun k_ => k_ ≠ gb377) (.slice (some ad376) t368.length co12) t368) := ⟨by (with_reducible repeat (fail)); exact Kd.R_mono (Kd.R_far (p := ⟨gb377, 4, none⟩) (Kd.R_far (p := ⟨gb377, 3, none⟩) (Kd.R_far (p := ⟨gb377, 2, none⟩) (Kd.R_far (p := ⟨gb377, 1, none⟩) (Kd.R_far (p := ⟨gb377, 0, none⟩) (Kd.R_mono HO_4.out (fun k_ hk => (⟨hk, hk.2⟩ : _ ∧ k_ ≠ gb377))) (fun _ hk => hk.2) (.int .i64 ((rd_T35 t368 x35_1).f0))) (fun _ hk => hk.2) (.int .i64 ((rd_T35 t368 x35_1).f1.f0))) (fun _ hk => hk.2) (.int .i64 ((rd_T35 t368 x35_1).f1.f1))) (fun _ hk => hk.2) (.int .i64 ((rd_T35 t368 x35_1).f2.f0))) (fun _ hk => hk.2) (.int .i64 ((rd_T35 t368 x35_1).f2.f1))) (fun _ hk => hk.1.2)⟩
                have n1_ : Aside0 (Kd.R k35 35 (((((w39.setCell ⟨gb377, 0, none⟩ (.int .i64 ((rd_T35 t368 x35_1).f0))).setCell ⟨gb377, 1, none⟩ (.int .i64 ((rd_T35 t368 x35_1).f1.f0))).setCell ⟨gb377, 2, none⟩ (.int .i64 ((rd_T35 t368 x35_1).f1.f1))).setCell ⟨gb377, 3, none⟩ (.int .i64 ((rd_T35 t368 x35_1).f2.f0))).setCell ⟨gb377, 4, none⟩ (.int .i64 ((rd_T35 t368 x35_1).f2.f1))) w.heap.size (fun k_ => k_ ≠ gb377) (.slice (some ad376) t368.length co12) t368) := ⟨by (with_reducible repeat (fail)); exact Kd.R_mono (Kd.R_far (p := ⟨gb377, 4, none⟩) (Kd.R_far (p := ⟨gb377, 3, none⟩) (Kd.R_far (p := ⟨gb377, 2, none⟩) (Kd.R_far (p := ⟨gb377, 1, none⟩) (Kd.R_far (p := ⟨gb377, 0, none⟩) (Kd.R_mono HO_33.out (fun k_ hk => (⟨hk, hk.2⟩ : _ ∧ k_ ≠ gb377))) (fun _ hk => hk.2) (.int .i64 ((rd_T35 t368 x35_1).f0))) (fun _ hk => hk.2) (.int .i64 ((rd_T35 t368 x35_1).f1.f0))) (fun _ hk => hk.2) (.int .i64 ((rd_T35 t368 x35_1).f1.f1))) (fun _ hk => hk.2) (.int .i64 ((rd_T35 t368 x35_1).f2.f0))) (fun _ hk => hk.2) (.int .i64 ((rd_T35 t368 x35_1).f2.f1))) (fun _ hk => hk.1.2)⟩
                have n2_ : Aside0 ((((((w39.setCell ⟨gb377, 0, none⟩ (.int .i64 ((rd_T35 t368 x35_1).f0))).setCell ⟨gb377, 1, none⟩ (.int .i64 ((rd_T35 t368 x35_1).f1.f0))).setCell ⟨gb377, 2, none⟩ (.int .i64 ((rd_T35 t368 x35_1).f1.f1))).setCell ⟨gb377, 3, none⟩ (.int .i64 ((rd_T35 t368 x35_1).f2.f0))).setCell ⟨gb377, 4, none⟩ (.int .i64 ((rd_T35 t368 x35_1).f2.f1))).heap[gb377]? = some (.cells #[.int .i64 ((rd_T35 t368 x35_1).f0), .int .i64 ((rd_T35 t368 x35_1).f1.f0), .int .i64 ((rd_T35 t368 x35_1).f1.f1), .int .i64 ((rd_T35 t368 x35_1).f2.f0), .int .i64 ((rd_T35 t368 x35_1).f2.f1)] 35 (0, 0))) := ⟨by (with_reducible repeat (fail)); refine blk_put (cs := #[.int .i64 ((rd_T35 t368 x35_1).f0), .int .i64 ((rd_T35 t368 x35_1).f1.f0), .int .i64 ((rd_T35 t368 x35_1).f1.f1), .int .i64 ((rd_T35 t368 x35_1).f2.f0), .int .i64 0]) ?_ 4 _ rfl; (with_reducible repeat (fail)); refine blk_put (cs := #[.int .i64 ((rd_T35 t368 x35_1).f0), .int .i64 ((rd_T35 t368 x35_1).f1.f0), .int .i64 ((rd_T35 t368 x35_1).f1.f1), .int .i64 0, .int .i64 0]) ?_ 3 _ rfl; (with_reducible repeat (fail)); refine blk_put (cs := #[.int .i64 ((rd_T35 t368 x35_1).f0), .int .i64 ((rd_T35 t368 x35_1).f1.f0), .int .i64 0, .int .i64 0, .int .i64 0]) ?_ 2 _ rfl; (with_reducible repeat (fail)); refine blk_put (cs := #[.int .i64 ((rd_T35 t368 x35_1).f0), .int .i64 0, .int .i64 0, .int .i64 0, .int .i64 0]) ?_ 1 _ rfl; (with_reducible repeat (fail)); refine blk_put (cs := #[.int .i64 0, .int .i64 0, .int .i64 0, .int .i64 0, .int .i64 0]) ?_ 0 _ rfl; (with_reducible repeat (fail)); exact BK377.out⟩
                have n3_ : Aside0 (Below w.heap.size w (((((w39.setCell ⟨gb377, 0, none⟩ (.int .i64 ((rd_T35 t368 x35_1).f0))).setCell ⟨gb377, 1, none⟩ (.int .i64 ((rd_T35 t368 x35_1).f1.f0))).setCell ⟨gb377, 2, none⟩ (.int .i64 ((rd_T35 t368 x35_1).f1.f1))).setCell ⟨gb377, 3, none⟩ (.int .i64 ((rd_T35 t368 x35_1).f2.f0))).setCell ⟨gb377, 4, none⟩ (.int .i64 ((rd_T35 t368 x35_1).f2.f1)))) := ⟨by repeat ((with_reducible first | exact HB.out | refine below_set ?_ GE377.out))⟩
                (try clear HO_4)
                (try clear HO_33)
                (try clear BK377)
                (try clear HB)
                generalize (((((w39.setCell ⟨gb377, 0, none⟩ (.int .i64 ((rd_T35 t368 x35_1).f0))).setCell ⟨gb377, 1, none⟩ (.int .i64 ((rd_T35 t368 x35_1).f1.f0))).setCell ⟨gb377, 2, none⟩ (.int .i64 ((rd_T35 t368 x35_1).f1.f1))).setCell ⟨gb377, 3, none⟩ (.int .i64 ((rd_T35 t368 x35_1).f2.f0))).setCell ⟨gb377, 4, none⟩ (.int .i64 ((rd_T35 t368 x35_1).f2.f1))) = w41 at n0_ n1_ n2_ n3_ ⊢
                have HO_4 := n0_
                have HO_33 := n1_
                have BK377 := n2_
                have HB := n3_
                clear n0_ n1_ n2_ n3_
                have n0_ := Aside0.mk (Kd.R_drew HO_4.out)
                have n1_ := Aside0.mk (Kd.R_drew HO_33.out)
                have n2_ := Aside0.mk (blk_drew BK377.out)
                have n3_ := Aside0.mk (below_drew1 HB.out)
                clear HO_4
                clear HO_33
                clear BK377
                clear HB
                have HO_4 := n0_
                have HO_33 := n1_
                have BK377 := n2_
                have HB := n3_
                clear n0_ n1_ n2_ n3_
                refine start_ (n := 14) (S := fun w' => True) (ds := []) #[false, false, false, false, false, false, false, false, false, false, false, false, false, false] (by kernel_rfl) rfl rfl trivial (fun hHeld => ?_); refine with_tabW formelaw03_ZoneCount.tab12 formelaw03_ZoneCount.bits12 (fun HT_ HW_ => ?_)
                generalize w41.drew = w42 at HO_4 HO_33 BK377 HB hHeld ⊢
                refine pure_ (i := 0) (N := some 59) (v := ?_) (a' := ?_) #[true, false, false, false, false, false, false, false, false, false, false, false, false, false] rfl rfl (any_of HT_.out (by kernel_rfl)) (fun _ _ _ h => h) (Or.inl ⟨by rfl, ?_⟩) ?_ ?_
                rotate_left
                · intro w'
                  go_simp
                  with_reducible rfl
                rotate_left
                · simp only [Act.put, List.setIfInBounds_toArray, List.set_cons_zero, List.set_cons_succ, i64_w, i32_w]
                  rfl
                refine pure_ (i := 1) (N := some 60) (v := ?_) (a' := ?_) #[true, true, false, false, false, false, false, false, false, false, false, false, false, false] rfl rfl (any_of HT_.out (by kernel_rfl)) (fun _ _ _ h => h) (Or.inl ⟨by rfl, ?_⟩) ?_ ?_
                rotate_left
                · intro w'
                  go_simp
                  with_reducible rfl
                rotate_left
                · simp only [Act.put, List.setIfInBounds_toArray, List.set_cons_zero, List.set_cons_succ, i64_w, i32_w]
                  rfl
                refine pure_ (i := 2) (N := some 61) (v := ?_) (a' := ?_) #[true, true, true, false, false, false, false, false, false, false, false, false, false, false] rfl rfl (any_of HT_.out (by kernel_rfl)) (fun _ _ _ h => h) (Or.inl ⟨by rfl, ?_⟩) ?_ ?_
                rotate_left
                · intro w'
                  go_simp
                  with_reducible rfl
                rotate_left
                · simp only [Act.put, List.setIfInBounds_toArray, List.set_cons_zero, List.set_cons_succ, i64_w, i32_w]
                  rfl
                refine pure_ (i := 3) (N := some 62) (v := undef) (a' := ?_) #[true, true, true, true, false, false, false, false, false, false, false, false, false, false] rfl rfl (any_of HT_.out (by kernel_rfl)) (fun _ _ _ h => h) (Or.inr ⟨by rfl, rfl⟩) ?_ ?_
                rotate_left
                · simp only [Act.put, List.setIfInBounds_toArray, List.set_cons_zero, List.set_cons_succ, i64_w, i32_w]
                  rfl
                refine pure_ (i := 4) (N := some 63) (v := undef) (a' := ?_) #[true, true, true, true, true, false, false, false, false, false, false, false, false, false] rfl rfl (any_of HT_.out (by kernel_rfl)) (fun _ _ _ h => h) (Or.inr ⟨by rfl, rfl⟩) ?_ ?_
                rotate_left
                · simp only [Act.put, List.setIfInBounds_toArray, List.set_cons_zero, List.set_cons_succ, i64_w, i32_w]
                  rfl
                refine pure_ (i := 5) (N := some 64) (v := undef) (a' := ?_) #[true, true, true, true, true, true, false, false, false, false, false, false, false, false] rfl rfl (any_of HT_.out (by kernel_rfl)) (fun _ _ _ h => h) (Or.inr ⟨by rfl, rfl⟩) ?_ ?_
                rotate_left
                · simp only [Act.put, List.setIfInBounds_toArray, List.set_cons_zero, List.set_cons_succ, i64_w, i32_w]
                  rfl
                refine pure_ (i := 6) (N := some 65) (v := undef) (a' := ?_) #[true, true, true, true, true, true, true, false, false, false, false, false, false, false] rfl rfl (any_of HT_.out (by kernel_rfl)) (fun _ _ _ h => h) (Or.inr ⟨by rfl, rfl⟩) ?_ ?_
                rotate_left
                · simp only [Act.put, List.setIfInBounds_toArray, List.set_cons_zero, List.set_cons_succ, i64_w, i32_w]
                  rfl
                refine pure_ (i := 7) (N := some 66) (v := undef) (a' := ?_) #[true, true, true, true, true, true, true, true, false, false, false, false, false, false] rfl rfl (any_of HT_.out (by kernel_rfl)) (fun _ _ _ h => h) (Or.inr ⟨by rfl, rfl⟩) ?_ ?_
                rotate_left
                · simp only [Act.put, List.setIfInBounds_toArray, List.set_cons_zero, List.set_cons_succ, i64_w, i32_w]
                  rfl
                refine pure_ (i := 8) (N := some 67) (v := undef) (a' := ?_) #[true, true, true, true, true, true, true, true, true, false, false, false, false, false] rfl rfl (any_of HT_.out (by kernel_rfl)) (fun _ _ _ h => h) (Or.inr ⟨by rfl, rfl⟩) ?_ ?_
                rotate_left
                · simp only [Act.put, List.setIfInBounds_toArray, List.set_cons_zero, List.set_cons_succ, i64_w, i32_w]
                  rfl
                refine pure_ (i := 9) (N := some 68) (v := undef) (a' := ?_) #[true, true, true, true, true, true, true, true, true, true, false, false, false, false] rfl rfl (any_of HT_.out (by kernel_rfl)) (fun _ _ _ h => h) (Or.inr ⟨by rfl, rfl⟩) ?_ ?_
                rotate_left
                · simp only [Act.put, List.setIfInBounds_toArray, List.set_cons_zero, List.set_cons_succ, i64_w, i32_w]
                  rfl
                refine pure_ (i := 10) (N := some 69) (v := undef) (a' := ?_) #[true, true, true, true, true, true, true, true, true, true, true, false, false, false] rfl rfl (any_of HT_.out (by kernel_rfl)) (fun _ _ _ h => h) (Or.inr ⟨by rfl, rfl⟩) ?_ ?_
                rotate_left
                · simp only [Act.put, List.setIfInBounds_toArray, List.set_cons_zero, List.set_cons_succ, i64_w, i32_w]
                  rfl
                refine pure_ (i := 11) (N := some 70) (v := undef) (a' := ?_) #[true, true, true, true, true, true, true, true, true, true, true, true, false, false] rfl rfl (any_of HT_.out (by kernel_rfl)) (fun _ _ _ h => h) (Or.inr ⟨by rfl, rfl⟩) ?_ ?_
                rotate_left
                · simp only [Act.put, List.setIfInBounds_toArray, List.set_cons_zero, List.set_cons_succ, i64_w, i32_w]
                  rfl
                refine pure_ (i := 12) (N := some 71) (v := undef) (a' := ?_) #[true, true, true, true, true, true, true, true, true, true, true, true, true, false] rfl rfl (any_of HT_.out (by kernel_rfl)) (fun _ _ _ h => h) (Or.inr ⟨by rfl, rfl⟩) ?_ ?_
                rotate_left
                · simp only [Act.put, List.setIfInBounds_toArray, List.set_cons_zero, List.set_cons_succ, i64_w, i32_w]
                  rfl
                refine pure_ (i := 13) (N := some 72) (v := ?_) (a' := ?_) #[true, true, true, true, true, true, true, true, true, true, true, true, true, true] rfl rfl (any_of HT_.out (by kernel_rfl)) (fun _ _ _ h => h) (Or.inl ⟨by rfl, ?_⟩) ?_ ?_
                rotate_left
                · intro w'
                  go_simp
                  with_reducible rfl
                rotate_left
                · simp only [Act.put, List.setIfInBounds_toArray, List.set_cons_zero, List.set_cons_succ, i64_w, i32_w]
                  rfl
                refine done_ (done_of HT_.out (by kernel_rfl)) ?_
                try go_wp2
                go_roundg k1
                case measure => have := HK1.out; omega
                case rel => exact ⟨(wrap64 (x10_1 + (wrap64 ((wrap64 ((wrap64 (((rd_T35 t368 x35_1).f1.f1) - ((rd_T35 t368 x35_1).f1.f0))) + 1)) * (wrap64 ((wrap64 (((rd_T35 t368 x35_1).f2.f1) - ((rd_T35 t368 x35_1).f2.f0))) + 1)))))), (wrap64 (x35_1 + 1)), (by rfl), (by rfl), H', ⟨by have := HK1.out; omega⟩, ⟨by (with_reducible repeat (fail)); exact Kd.R_mono HO_4.out (fun _ hk => trivial)⟩, ⟨by (with_reducible repeat (fail)); exact Kd.R_mono HO_33.out (fun _ hk => trivial)⟩, ⟨by repeat ((with_reducible exact HB.out))⟩⟩
            · rw [if_neg c16] at H
              exact absurd H (by simp)
          · rw [if_neg c15] at H
            exact absurd H (by simp)
        · rw [if_neg c14] at H
          have c14b0 : decide (x35_1 < (t368.length : Int)) = false := decide_eq_false c14
          clear c14
          by_cases c43 : t366 = true
          · subst c43
            have H1 : (if t369 = 0 then (if t373 = 0 then (if t375 = 0 then (if t372 = t374 then (some (t372 == x10_1)) else (some false)) else (some false)) else (some false)) else (some false)) = some r := by rw [if_pos rfl] at H; exact H
            clear H
            have H := H1
            clear H1
            by_cases c44 : t369 = 0
            · rw [if_pos c44] at H
              have c44b0 : (t369 == 0) = true := beq_iff_eq.mpr c44
              have c44b1 : (t369 != 0) = false := bne_eq_false_iff_eq.mpr c44
              clear c44
              by_cases c45 : t373 = 0
              · rw [if_pos c45] at H
                have c45b0 : (t373 == 0) = true := beq_iff_eq.mpr c45
                have c45b1 : (t373 != 0) = false := bne_eq_false_iff_eq.mpr c45
                clear c45
                by_cases c46 : t375 = 0
                · rw [if_pos c46] at H
                  have c46b0 : (t375 == 0) = true := beq_iff_eq.mpr c46
                  have c46b1 : (t375 != 0) = false := bne_eq_false_iff_eq.mpr c46
                  clear c46
                  by_cases c47 : t372 = t374
                  · rw [if_pos c47] at H
                    have c47b0 : (t372 == t374) = true := beq_iff_eq.mpr c47
                    have c47b1 : (t372 != t374) = false := bne_eq_false_iff_eq.mpr c47
                    clear c47
                    obtain rfl := Option.some.inj H
                    go_wp2
                    go_ret
                    exact ⟨by rfl, by repeat ((with_reducible exact HB.out))⟩
                  · rw [if_neg c47] at H
                    have c47b0 : (t372 == t374) = false := beq_eq_false_iff_ne.mpr c47
                    have c47b1 : (t372 != t374) = true := bne_iff_ne.mpr c47
                    obtain rfl := Option.some.inj H
                    go_wp2
                    go_ret
                    exact ⟨by rfl, by repeat ((with_reducible exact HB.out))⟩
                · rw [if_neg c46] at H
                  have c46b0 : (t375 == 0) = false := beq_eq_false_iff_ne.mpr c46
                  have c46b1 : (t375 != 0) = true := bne_iff_ne.mpr c46
                  obtain rfl := Option.some.inj H
                  go_wp2
                  go_ret
                  exact ⟨by rfl, by repeat ((with_reducible exact HB.out))⟩
              · rw [if_neg c45] at H
                have c45b0 : (t373 == 0) = false := beq_eq_false_iff_ne.mpr c45
                have c45b1 : (t373 != 0) = true := bne_iff_ne.mpr c45
                obtain rfl := Option.some.inj H
                go_wp2
                go_ret
                exact ⟨by rfl, by repeat ((with_reducible exact HB.out))⟩
            · rw [if_neg c44] at H
              have c44b0 : (t369 == 0) = false := beq_eq_false_iff_ne.mpr c44
              have c44b1 : (t369 != 0) = true := bne_iff_ne.mpr c44
              obtain rfl := Option.some.inj H
              go_wp2
              go_ret
              exact ⟨by rfl, by repeat ((with_reducible exact HB.out))⟩
          · replace c43 := Bool.eq_false_iff.mpr c43
            subst c43
            have H1 : (some false) = some r := by rw [if_neg (show ¬ (false = true) by decide)] at H; exact H
            clear H
            have H := H1
            clear H1
            obtain rfl := Option.some.inj H
            go_wp2
            go_ret
            exact ⟨by rfl, by repeat ((with_reducible exact HB.out))⟩
  · replace c4 := Bool.eq_false_iff.mpr c4
    subst c4
    have H1 : (some t366) = some r := by rw [if_neg (show ¬ (false = true) by decide)] at H; exact H
    clear H
    have H := H1
    clear H1
    obtain rfl := Option.some.inj H
    go_enter Try.func6, Try.ntmps6
    go_wp2_with (first | ((with_reducible refine gate_callee (f := 9) rfl ?_); refine goesL_ (some 13) rfl rfl Try.func9 (by kernel_rfl) rfl #[] rfl (by (try simp only [List.map_toArray, List.map_cons, List.map_nil]); done) ?_; (with_reducible refine (formelaw03_head.calls  t366 _ A2.out).mono ?_); rintro e w48 ⟨rfl, hb⟩; refine ⟨_, rfl, ?_⟩; have n0_ := Aside0.mk (below_step (by repeat ((with_reducible exact HB.out))) hb); clear HB; have HB := n0_; clear n0_; (try clear hb)) | ((with_reducible refine gate_callee (f := 10) rfl ?_); refine goesL_ (some 15) rfl rfl Try.func10 (by kernel_rfl) rfl #[.slice A0 l0.length c0, .slice none 0 0] rfl (by (try simp only [List.map_toArray, List.map_cons, List.map_nil]); rfl) ?_; (refine (formelaw03_usable.calls k _ _ l0 _ _ ([] : List (S35)) false _ ?side1 ?side2 ?side3 ?side4 A3.out).mono ?_); (case side1 => repeat (exact (Kd.C_below HR0.out HB.out))); (case side2 => exact HC0.out); (case side3 => exact Kd.C_nil _ _); (case side4 => exact Nat.le_refl _); rintro e w49 ⟨rfl, hb⟩; refine ⟨_, rfl, ?_⟩; have n0_ := Aside0.mk (below_step (by repeat ((with_reducible exact HB.out))) hb); clear HB; have HB := n0_; clear n0_; (try clear hb)))
    go_ret
    exact ⟨by rfl, by repeat ((with_reducible exact HB.out))⟩

end Go.Proofs.Ytacohlafmbhcdaa.PAll
