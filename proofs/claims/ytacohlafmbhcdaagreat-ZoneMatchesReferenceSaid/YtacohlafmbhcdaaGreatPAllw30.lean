/- Printed by wip/gprint.py. -/
import Derived.Test.YtacohlafmbhcdaaGreatPAlld1
import Derived.Test.YtacohlafmbhcdaaGreatPAllw29
namespace Go.Proofs.YtacohlafmbhcdaaGreat.PAll
set_option linter.unusedVariables false
set_option linter.unusedSimpArgs false
open Go.RowKit Go.Proofs.YtacohlafmbhcdaaGreatW.PrintWords Go.Proofs.YtacohlafmbhcdaaGreatW.PrintLast Go.Proofs.YtacohlafmbhcdaaGreatW.PrintMore
attribute [local go_sem] max2_int min2_int max_two min_two max_three min_three max_four min_four
set_option maxHeartbeats 8000000 in
set_option maxRecDepth 100000 in
theorem formeref03_widths.calls (k : Nat) (A0 : Option Addr) (c0 : Nat) (l0 : List (S42)) (a1 : Int) (a2 : Int) (r : List (S40)) (w : World) (hr0 : Kd.C k42 w A0 l0.length l0) (hc0 : l0.length ≤ c0) (h : formeref03_widths.f k l0 a1 a2 = some r) :
  Calls Tryz.prog 46 #[.slice A0 l0.length c0, .int .i64 a1, .int .i64 a2] w fun e w' => ∃ v0_ : Value, e = .returned (v0_) ∧ Kd.R k40 40 w' w.heap.size (fun _ => True) v0_ r ∧ Below w.heap.size w w' := by
 have hu40 := Tryz.underlying40
 have HR0 := Aside0.mk hr0
 have HC0 := Aside0.mk hc0
 clear hr0 hc0
 have HB := Aside0.mk (Below.refl w.heap.size w)
 have H : (formeref03_widths.l0 k l0 a1 a2 ([] : List (S40)) 0) = some r := h
 clear h
 have H' := Aside0.mk H
 clear H
 go_enter Tryz.func46, Tryz.ntmps46
 go_wp2
 go_loopg [7, 8] k (fun kq v7 v8 w' => ∃ (x7_1 : List (S40)) (x8_1 : Int), v8 = .int .i64 x8_1 ∧ Aside0 (formeref03_widths.l0 kq l0 a1 a2 x7_1 x8_1 = some r) ∧ Aside0 (kq ≤ k) ∧ Aside0 (Kd.R k40 40 w' w.heap.size (fun _ => True) v7 x7_1) ∧ Aside0 (Below w.heap.size w w'))
 case atStart => exact ⟨(([] : List (S40))), (0), (by rfl), H', ⟨Nat.le_refl _⟩, ⟨by exact Kd.R_nil _ _ _ _ _⟩, ⟨by repeat ((with_reducible exact HB.out))⟩⟩
 case round =>
  clear H'
  obtain ⟨x7_1, x8_1, rfl, HA, HK1, HO_7, HB⟩ := hrel
  cases gk with
  | zero => exact absurd HA.out (by simp [formeref03_widths.l0])
  | succ k1 =>
   have H := HA.out
   clear HA
   simp only [formeref03_widths.l0] at H
   by_cases c4 : x8_1 < (l0.length : Int)
   · rw [if_pos c4] at H
     have c4b0 : decide (x8_1 < (l0.length : Int)) = true := decide_eq_true c4
     clear c4
     by_cases c5 : 0 ≤ x8_1
     · rw [if_pos c5] at H
       have c5b0 : decide (0 ≤ x8_1) = true := decide_eq_true c5
       clear c5
       by_cases c6 : ((rd_T42 l0 x8_1).f0) = a1
       · rw [if_pos c6] at H
         have c6b0 : (((rd_T42 l0 x8_1).f0) == a1) = true := beq_iff_eq.mpr c6
         have c6b1 : (((rd_T42 l0 x8_1).f0) != a1) = false := bne_eq_false_iff_eq.mpr c6
         clear c6
         by_cases c7 : ((rd_T42 l0 x8_1).f1.f0) ≤ a2
         · rw [if_pos c7] at H
           have c7b0 : decide (((rd_T42 l0 x8_1).f1.f0) ≤ a2) = true := decide_eq_true c7
           clear c7
           by_cases c8 : a2 ≤ ((rd_T42 l0 x8_1).f1.f1)
           · rw [if_pos c8] at H
             have c8b0 : decide (a2 ≤ ((rd_T42 l0 x8_1).f1.f1)) = true := decide_eq_true c8
             clear c8
             replace H := Option.bind_eq_some_iff.mp H
             obtain ⟨t304, A90, H⟩ := H
             replace H : (formeref03_widths.l0 k1 l0 a1 a2 t304 (wrap64 (x8_1 + 1))) = some r := H
             have A9 := Aside0.mk A90
             clear A90
             have H' := Aside0.mk H
             clear H
             have p300 : 0 ≤ (x8_1 : Int) := of_decide_eq_true (by (with_reducible assumption))
             have q300 : x8_1 < (l0.length : Int) := of_decide_eq_true (by (with_reducible assumption))
             obtain ⟨ad300, e300, hx300_0, hx300_1, hx300_2, hx300_3, hx300_4⟩ := at_T42 HR0.out x8_1 p300 q300
             cases e300
             replace hx300_0 := (HB.out.cell (World.block_lt_of_cell? w _ hx300_0)).trans hx300_0
             replace hx300_1 := (HB.out.cell (World.block_lt_of_cell? w _ hx300_1)).trans hx300_1
             replace hx300_2 := (HB.out.cell (World.block_lt_of_cell? w _ hx300_2)).trans hx300_2
             replace hx300_3 := (HB.out.cell (World.block_lt_of_cell? w _ hx300_3)).trans hx300_3
             replace hx300_4 := (HB.out.cell (World.block_lt_of_cell? w _ hx300_4)).trans hx300_4
             replace p300 := eq_true p300
             replace q300 := eq_true q300
             have p301 : 0 ≤ (x8_1 : Int) := of_decide_eq_true (by (with_reducible assumption))
             have q301 : x8_1 < (l0.length : Int) := of_decide_eq_true (by (with_reducible assumption))
             obtain ⟨ad301, e301, hx301_0, hx301_1, hx301_2, hx301_3, hx301_4⟩ := at_T42 HR0.out x8_1 p301 q301
             obtain rfl : ad300 = ad301 := (by injection e301)
             replace hx301_0 := (HB.out.cell (World.block_lt_of_cell? w _ hx301_0)).trans hx301_0
             replace hx301_1 := (HB.out.cell (World.block_lt_of_cell? w _ hx301_1)).trans hx301_1
             replace hx301_2 := (HB.out.cell (World.block_lt_of_cell? w _ hx301_2)).trans hx301_2
             replace hx301_3 := (HB.out.cell (World.block_lt_of_cell? w _ hx301_3)).trans hx301_3
             replace hx301_4 := (HB.out.cell (World.block_lt_of_cell? w _ hx301_4)).trans hx301_4
             replace p301 := eq_true p301
             replace q301 := eq_true q301
             have p302 : 0 ≤ (x8_1 : Int) := of_decide_eq_true (by (with_reducible assumption))
             have q302 : x8_1 < (l0.length : Int) := of_decide_eq_true (by (with_reducible assumption))
             obtain ⟨ad302, e302, hx302_0, hx302_1, hx302_2, hx302_3, hx302_4⟩ := at_T42 HR0.out x8_1 p302 q302
             obtain rfl : ad300 = ad302 := (by injection e302)
             replace hx302_0 := (HB.out.cell (World.block_lt_of_cell? w _ hx302_0)).trans hx302_0
             replace hx302_1 := (HB.out.cell (World.block_lt_of_cell? w _ hx302_1)).trans hx302_1
             replace hx302_2 := (HB.out.cell (World.block_lt_of_cell? w _ hx302_2)).trans hx302_2
             replace hx302_3 := (HB.out.cell (World.block_lt_of_cell? w _ hx302_3)).trans hx302_3
             replace hx302_4 := (HB.out.cell (World.block_lt_of_cell? w _ hx302_4)).trans hx302_4
             replace p302 := eq_true p302
             replace q302 := eq_true q302
             have p303 : 0 ≤ (x8_1 : Int) := of_decide_eq_true (by (with_reducible assumption))
             have q303 : x8_1 < (l0.length : Int) := of_decide_eq_true (by (with_reducible assumption))
             obtain ⟨ad303, e303, hx303_0, hx303_1, hx303_2, hx303_3, hx303_4⟩ := at_T42 HR0.out x8_1 p303 q303
             obtain rfl : ad300 = ad303 := (by injection e303)
             replace hx303_0 := (HB.out.cell (World.block_lt_of_cell? w _ hx303_0)).trans hx303_0
             replace hx303_1 := (HB.out.cell (World.block_lt_of_cell? w _ hx303_1)).trans hx303_1
             replace hx303_2 := (HB.out.cell (World.block_lt_of_cell? w _ hx303_2)).trans hx303_2
             replace hx303_3 := (HB.out.cell (World.block_lt_of_cell? w _ hx303_3)).trans hx303_3
             replace hx303_4 := (HB.out.cell (World.block_lt_of_cell? w _ hx303_4)).trans hx303_4
             replace p303 := eq_true p303
             replace q303 := eq_true q303
             obtain ⟨Ao10, co10, eo10⟩ := Kd.R_slice HO_7.out
             subst eo10
             go_wp2_with (((with_reducible refine gate_callee (f := 57) rfl ?_); refine goesL_ (some 48) rfl rfl Tryz.func57 (by kernel_rfl) rfl #[.slice Ao10 x7_1.length co10, .agg #[.int .i64 ((rd_T42 l0 x8_1).f2.f0), .int .i64 ((rd_T42 l0 x8_1).f2.f1)]] rfl (by (try simp only [List.map_toArray, List.map_cons, List.map_nil]); rfl) ?_; (with_reducible refine (formeref03_put.calls k1 _ _ x7_1 ((rd_T42 l0 x8_1).f2.f0) ((rd_T42 l0 x8_1).f2.f1) t304 _ ?side1 ?side2 A9.out).mono ?_); (case side1 => repeat (exact (Kd.R_reads' HO_7.out).2.2)); (case side2 => exact (Kd.R_reads' HO_7.out).2.1); rintro e w11 ⟨v305, rfl, ho0, hb⟩; refine ⟨_, rfl, ?_⟩; have n0_ := Aside0.mk (Kd.R_elder' (by (with_reducible repeat (fail)); exact HO_7.out) (Kd.R_base ho0) hb); have n1_ := Aside0.mk (Kd.R_lower (Kd.R_new' ho0 (Kd.R_lt (by (with_reducible repeat (fail)); exact HO_7.out))) (below_size (by repeat ((with_reducible exact HB.out))))); have n2_ := Aside0.mk (below_step (by repeat ((with_reducible exact HB.out))) hb); clear HO_7; clear HB; have HO_7 := n0_; have HO306 := n1_; have HB := n2_; clear n0_ n1_ n2_; (try clear hb); (try clear ho0)))
             go_roundg k1
             case measure => have := HK1.out; omega
             case rel => exact ⟨(t304), (wrap64 (x8_1 + 1)), (by rfl), H', ⟨by have := HK1.out; omega⟩, ⟨by (with_reducible repeat (fail)); exact Kd.R_mono HO306.out (fun _ hk => trivial)⟩, ⟨by repeat ((with_reducible exact HB.out))⟩⟩
           · rw [if_neg c8] at H
             have c8b0 : decide (a2 ≤ ((rd_T42 l0 x8_1).f1.f1)) = false := decide_eq_false c8
             clear c8
             have H' := Aside0.mk H
             clear H
             have p300 : 0 ≤ (x8_1 : Int) := of_decide_eq_true (by (with_reducible assumption))
             have q300 : x8_1 < (l0.length : Int) := of_decide_eq_true (by (with_reducible assumption))
             obtain ⟨ad300, e300, hx300_0, hx300_1, hx300_2, hx300_3, hx300_4⟩ := at_T42 HR0.out x8_1 p300 q300
             cases e300
             replace hx300_0 := (HB.out.cell (World.block_lt_of_cell? w _ hx300_0)).trans hx300_0
             replace hx300_1 := (HB.out.cell (World.block_lt_of_cell? w _ hx300_1)).trans hx300_1
             replace hx300_2 := (HB.out.cell (World.block_lt_of_cell? w _ hx300_2)).trans hx300_2
             replace hx300_3 := (HB.out.cell (World.block_lt_of_cell? w _ hx300_3)).trans hx300_3
             replace hx300_4 := (HB.out.cell (World.block_lt_of_cell? w _ hx300_4)).trans hx300_4
             replace p300 := eq_true p300
             replace q300 := eq_true q300
             have p301 : 0 ≤ (x8_1 : Int) := of_decide_eq_true (by (with_reducible assumption))
             have q301 : x8_1 < (l0.length : Int) := of_decide_eq_true (by (with_reducible assumption))
             obtain ⟨ad301, e301, hx301_0, hx301_1, hx301_2, hx301_3, hx301_4⟩ := at_T42 HR0.out x8_1 p301 q301
             obtain rfl : ad300 = ad301 := (by injection e301)
             replace hx301_0 := (HB.out.cell (World.block_lt_of_cell? w _ hx301_0)).trans hx301_0
             replace hx301_1 := (HB.out.cell (World.block_lt_of_cell? w _ hx301_1)).trans hx301_1
             replace hx301_2 := (HB.out.cell (World.block_lt_of_cell? w _ hx301_2)).trans hx301_2
             replace hx301_3 := (HB.out.cell (World.block_lt_of_cell? w _ hx301_3)).trans hx301_3
             replace hx301_4 := (HB.out.cell (World.block_lt_of_cell? w _ hx301_4)).trans hx301_4
             replace p301 := eq_true p301
             replace q301 := eq_true q301
             have p302 : 0 ≤ (x8_1 : Int) := of_decide_eq_true (by (with_reducible assumption))
             have q302 : x8_1 < (l0.length : Int) := of_decide_eq_true (by (with_reducible assumption))
             obtain ⟨ad302, e302, hx302_0, hx302_1, hx302_2, hx302_3, hx302_4⟩ := at_T42 HR0.out x8_1 p302 q302
             obtain rfl : ad300 = ad302 := (by injection e302)
             replace hx302_0 := (HB.out.cell (World.block_lt_of_cell? w _ hx302_0)).trans hx302_0
             replace hx302_1 := (HB.out.cell (World.block_lt_of_cell? w _ hx302_1)).trans hx302_1
             replace hx302_2 := (HB.out.cell (World.block_lt_of_cell? w _ hx302_2)).trans hx302_2
             replace hx302_3 := (HB.out.cell (World.block_lt_of_cell? w _ hx302_3)).trans hx302_3
             replace hx302_4 := (HB.out.cell (World.block_lt_of_cell? w _ hx302_4)).trans hx302_4
             replace p302 := eq_true p302
             replace q302 := eq_true q302
             go_wp2
             go_roundg k1
             case measure => have := HK1.out; omega
             case rel => exact ⟨(x7_1), (wrap64 (x8_1 + 1)), (by rfl), H', ⟨by have := HK1.out; omega⟩, ⟨by (with_reducible repeat (fail)); exact HO_7.out⟩, ⟨by repeat ((with_reducible exact HB.out))⟩⟩
         · rw [if_neg c7] at H
           have c7b0 : decide (((rd_T42 l0 x8_1).f1.f0) ≤ a2) = false := decide_eq_false c7
           clear c7
           have H' := Aside0.mk H
           clear H
           have p300 : 0 ≤ (x8_1 : Int) := of_decide_eq_true (by (with_reducible assumption))
           have q300 : x8_1 < (l0.length : Int) := of_decide_eq_true (by (with_reducible assumption))
           obtain ⟨ad300, e300, hx300_0, hx300_1, hx300_2, hx300_3, hx300_4⟩ := at_T42 HR0.out x8_1 p300 q300
           cases e300
           replace hx300_0 := (HB.out.cell (World.block_lt_of_cell? w _ hx300_0)).trans hx300_0
           replace hx300_1 := (HB.out.cell (World.block_lt_of_cell? w _ hx300_1)).trans hx300_1
           replace hx300_2 := (HB.out.cell (World.block_lt_of_cell? w _ hx300_2)).trans hx300_2
           replace hx300_3 := (HB.out.cell (World.block_lt_of_cell? w _ hx300_3)).trans hx300_3
           replace hx300_4 := (HB.out.cell (World.block_lt_of_cell? w _ hx300_4)).trans hx300_4
           replace p300 := eq_true p300
           replace q300 := eq_true q300
           have p301 : 0 ≤ (x8_1 : Int) := of_decide_eq_true (by (with_reducible assumption))
           have q301 : x8_1 < (l0.length : Int) := of_decide_eq_true (by (with_reducible assumption))
           obtain ⟨ad301, e301, hx301_0, hx301_1, hx301_2, hx301_3, hx301_4⟩ := at_T42 HR0.out x8_1 p301 q301
           obtain rfl : ad300 = ad301 := (by injection e301)
           replace hx301_0 := (HB.out.cell (World.block_lt_of_cell? w _ hx301_0)).trans hx301_0
           replace hx301_1 := (HB.out.cell (World.block_lt_of_cell? w _ hx301_1)).trans hx301_1
           replace hx301_2 := (HB.out.cell (World.block_lt_of_cell? w _ hx301_2)).trans hx301_2
           replace hx301_3 := (HB.out.cell (World.block_lt_of_cell? w _ hx301_3)).trans hx301_3
           replace hx301_4 := (HB.out.cell (World.block_lt_of_cell? w _ hx301_4)).trans hx301_4
           replace p301 := eq_true p301
           replace q301 := eq_true q301
           go_wp2
           go_roundg k1
           case measure => have := HK1.out; omega
           case rel => exact ⟨(x7_1), (wrap64 (x8_1 + 1)), (by rfl), H', ⟨by have := HK1.out; omega⟩, ⟨by (with_reducible repeat (fail)); exact HO_7.out⟩, ⟨by repeat ((with_reducible exact HB.out))⟩⟩
       · rw [if_neg c6] at H
         have c6b0 : (((rd_T42 l0 x8_1).f0) == a1) = false := beq_eq_false_iff_ne.mpr c6
         have c6b1 : (((rd_T42 l0 x8_1).f0) != a1) = true := bne_iff_ne.mpr c6
         have H' := Aside0.mk H
         clear H
         have p300 : 0 ≤ (x8_1 : Int) := of_decide_eq_true (by (with_reducible assumption))
         have q300 : x8_1 < (l0.length : Int) := of_decide_eq_true (by (with_reducible assumption))
         obtain ⟨ad300, e300, hx300_0, hx300_1, hx300_2, hx300_3, hx300_4⟩ := at_T42 HR0.out x8_1 p300 q300
         cases e300
         replace hx300_0 := (HB.out.cell (World.block_lt_of_cell? w _ hx300_0)).trans hx300_0
         replace hx300_1 := (HB.out.cell (World.block_lt_of_cell? w _ hx300_1)).trans hx300_1
         replace hx300_2 := (HB.out.cell (World.block_lt_of_cell? w _ hx300_2)).trans hx300_2
         replace hx300_3 := (HB.out.cell (World.block_lt_of_cell? w _ hx300_3)).trans hx300_3
         replace hx300_4 := (HB.out.cell (World.block_lt_of_cell? w _ hx300_4)).trans hx300_4
         replace p300 := eq_true p300
         replace q300 := eq_true q300
         go_wp2
         go_roundg k1
         case measure => have := HK1.out; omega
         case rel => exact ⟨(x7_1), (wrap64 (x8_1 + 1)), (by rfl), H', ⟨by have := HK1.out; omega⟩, ⟨by (with_reducible repeat (fail)); exact HO_7.out⟩, ⟨by repeat ((with_reducible exact HB.out))⟩⟩
     · rw [if_neg c5] at H
       exact absurd H (by simp)
   · rw [if_neg c4] at H
     have c4b0 : decide (x8_1 < (l0.length : Int)) = false := decide_eq_false c4
     clear c4
     obtain rfl := Option.some.inj H
     go_wp2
     go_ret
     exact ⟨_, by rfl, by (with_reducible repeat (fail)); exact HO_7.out, by repeat ((with_reducible exact HB.out))⟩
set_option maxHeartbeats 8000000 in
set_option maxRecDepth 100000 in
theorem formeref03_less.calls (k : Nat) (A0 : Option Addr) (c0 : Nat) (l0 : List (S40)) (A1 : Option Addr) (c1 : Nat) (l1 : List (S40)) (r : List (S40)) (w : World) (hr0 : Kd.C k40 w A0 l0.length l0) (hc0 : l0.length ≤ c0) (hr1 : Kd.C k40 w A1 l1.length l1) (hc1 : l1.length ≤ c1) (h : formeref03_less.f k l0 l1 = some r) :
  Calls Tryz.prog 58 #[.slice A0 l0.length c0, .slice A1 l1.length c1] w fun e w' => ∃ v0_ : Value, e = .returned (v0_) ∧ Kd.R k40 40 w' w.heap.size (fun _ => True) v0_ r ∧ Below w.heap.size w w' := by
 have hu40 := Tryz.underlying40
 have HR0 := Aside0.mk hr0
 have HC0 := Aside0.mk hc0
 clear hr0 hc0
 have HR1 := Aside0.mk hr1
 have HC1 := Aside0.mk hc1
 clear hr1 hc1
 have HB := Aside0.mk (Below.refl w.heap.size w)
 have H : (formeref03_less.l0 k l0 l1 ([] : List (S40)) 0) = some r := h
 clear h
 have H' := Aside0.mk H
 clear H
 go_enter Tryz.func58, Tryz.ntmps58
 go_wp2
 repeat (go_quiet (fail); try go_wp2)
 go_loopg [5, 6] k (fun kq v5 v6 w' => ∃ (x5_1 : List (S40)) (x6_1 : Int), v6 = .int .i64 x6_1 ∧ Aside0 (formeref03_less.l0 kq l0 l1 x5_1 x6_1 = some r) ∧ Aside0 (kq ≤ k) ∧ Aside0 (Kd.R k40 40 w' w.heap.size (fun _ => True) v5 x5_1) ∧ Aside0 (Below w.heap.size w w'))
 case atStart => exact ⟨(([] : List (S40))), (0), (by rfl), H', ⟨Nat.le_refl _⟩, ⟨by exact Kd.R_nil _ _ _ _ _⟩, ⟨by repeat ((with_reducible exact HB.out))⟩⟩
 case round =>
  clear H'
  obtain ⟨x5_1, x6_1, rfl, HA, HK1, HO_5, HB⟩ := hrel
  cases gk with
  | zero => exact absurd HA.out (by simp [formeref03_less.l0])
  | succ k1 =>
   have H := HA.out
   clear HA
   simp only [formeref03_less.l0] at H
   by_cases c3 : x6_1 < (l0.length : Int)
   · rw [if_pos c3] at H
     have c3b0 : decide (x6_1 < (l0.length : Int)) = true := decide_eq_true c3
     clear c3
     by_cases c4 : 0 ≤ x6_1
     · rw [if_pos c4] at H
       have c4b0 : decide (0 ≤ x6_1) = true := decide_eq_true c4
       clear c4
       have H' := Aside0.mk H
       clear H
       have p307 : 0 ≤ (x6_1 : Int) := of_decide_eq_true (by (with_reducible assumption))
       have q307 : x6_1 < (l0.length : Int) := of_decide_eq_true (by (with_reducible assumption))
       obtain ⟨ad307, e307, hx307_0, hx307_1⟩ := at_T40 HR0.out x6_1 p307 q307
       cases e307
       replace hx307_0 := (HB.out.cell (World.block_lt_of_cell? w _ hx307_0)).trans hx307_0
       replace hx307_1 := (HB.out.cell (World.block_lt_of_cell? w _ hx307_1)).trans hx307_1
       replace p307 := eq_true p307
       replace q307 := eq_true q307
       go_wp2
       repeat (go_quiet (fail); try go_wp2)
       go_loopg [5, 7, 8] k1 (fun kq v5 v7 v8 w' => ∃ (x5_2 : List (S40)) (x7_2 : Int) (x8_2 : Int), v7 = .int .i64 x7_2 ∧ v8 = .int .i64 x8_2 ∧ Aside0 (formeref03_less.l1 kq l0 l1 x5_2 x6_1 x7_2 x8_2 = some r) ∧ Aside0 (kq ≤ k1) ∧ Aside0 (Kd.R k40 40 w' w.heap.size (fun _ => True) v5 x5_2) ∧ Aside0 (Below w.heap.size w w'))
       case atStart => exact ⟨(x5_1), ((rd_T40 l0 x6_1).f0), (0), (by rfl), (by rfl), H', ⟨Nat.le_refl _⟩, ⟨by (with_reducible repeat (fail)); exact HO_5.out⟩, ⟨by repeat ((with_reducible exact HB.out))⟩⟩
       case round =>
        clear H'
        try clear c3b0
        try clear c4b0
        try clear hx307_0
        try clear hx307_1
        try clear p307
        try clear q307
        obtain ⟨x5_2, x7_2, x8_2, rfl, rfl, HA, HK2, HO_5, HB⟩ := hrel
        cases gk with
        | zero => exact absurd HA.out (by simp [formeref03_less.l1])
        | succ k2 =>
         have H := HA.out
         clear HA
         simp only [formeref03_less.l1] at H
         by_cases c5 : x8_2 < (l1.length : Int)
         · rw [if_pos c5] at H
           have c5b0 : decide (x8_2 < (l1.length : Int)) = true := decide_eq_true c5
           clear c5
           have HC6 := Aside0.mk H
           clear H
           go_upto_region 9 with (fail)
           repeat (go_quiet (fail); go_upto_region 9 with (fail))
           go_cut [45] (fun v45 wc => ∃ (kq : Nat) (x45_5 : Bool), v45 = .bool x45_5 ∧ Aside0 (formeref03_less.j2 kq l0 l1 x5_2 x6_1 x7_2 x8_2 x45_5 = some r) ∧ Aside0 (kq ≤ k2) ∧ Aside0 (Kd.R k40 40 wc w.heap.size (fun _ => True) u5 x5_2) ∧ Aside0 (Below w.heap.size w wc))
           case first =>
            have H := HC6.out
            clear HC6
            by_cases c7 : 0 ≤ x8_2
            · rw [if_pos c7] at H
              have c7b0 : decide (0 ≤ x8_2) = true := decide_eq_true c7
              clear c7
              (skip)
              by_cases c8 : ((rd_T40 l1 x8_2).f1) < x7_2
              · rw [if_pos c8] at H
                have c8b0 : decide (((rd_T40 l1 x8_2).f1) < x7_2) = true := decide_eq_true c8
                clear c8
                have H' := Aside0.mk H
                clear H
                have p313 : 0 ≤ (x8_2 : Int) := of_decide_eq_true (by (with_reducible assumption))
                have q313 : x8_2 < (l1.length : Int) := of_decide_eq_true (by (with_reducible assumption))
                obtain ⟨ad313, e313, hx313_0, hx313_1⟩ := at_T40 HR1.out x8_2 p313 q313
                cases e313
                replace hx313_0 := (HB.out.cell (World.block_lt_of_cell? w _ hx313_0)).trans hx313_0
                replace hx313_1 := (HB.out.cell (World.block_lt_of_cell? w _ hx313_1)).trans hx313_1
                replace p313 := eq_true p313
                replace q313 := eq_true q313
                go_wp2
                repeat (go_quiet (fail); try go_wp2)
                go_meet
                case rel => exact ⟨_, (true), (by rfl), H', ⟨by have := HK1.out; have := HK2.out; omega⟩, ⟨by (with_reducible repeat (apply Kd.R_drewN)); exact HO_5.out⟩, ⟨by repeat ((with_reducible first | exact HB.out | apply pw_below_drewN))⟩⟩
              · rw [if_neg c8] at H
                have c8b0 : decide (((rd_T40 l1 x8_2).f1) < x7_2) = false := decide_eq_false c8
                clear c8
                by_cases c9 : 0 ≤ x6_1
                · rw [if_pos c9] at H
                  have c9b0 : decide (0 ≤ x6_1) = true := decide_eq_true c9
                  clear c9
                  by_cases c10 : x6_1 < (l0.length : Int)
                  · rw [if_pos c10] at H
                    have c10b0 : decide (x6_1 < (l0.length : Int)) = true := decide_eq_true c10
                    clear c10
                    have H' := Aside0.mk H
                    clear H
                    have p313 : 0 ≤ (x8_2 : Int) := of_decide_eq_true (by (with_reducible assumption))
                    have q313 : x8_2 < (l1.length : Int) := of_decide_eq_true (by (with_reducible assumption))
                    obtain ⟨ad313, e313, hx313_0, hx313_1⟩ := at_T40 HR1.out x8_2 p313 q313
                    cases e313
                    replace hx313_0 := (HB.out.cell (World.block_lt_of_cell? w _ hx313_0)).trans hx313_0
                    replace hx313_1 := (HB.out.cell (World.block_lt_of_cell? w _ hx313_1)).trans hx313_1
                    replace p313 := eq_true p313
                    replace q313 := eq_true q313
                    have p314 : 0 ≤ (x8_2 : Int) := of_decide_eq_true (by (with_reducible assumption))
                    have q314 : x8_2 < (l1.length : Int) := of_decide_eq_true (by (with_reducible assumption))
                    obtain ⟨ad314, e314, hx314_0, hx314_1⟩ := at_T40 HR1.out x8_2 p314 q314
                    obtain rfl : ad313 = ad314 := (by injection e314)
                    replace hx314_0 := (HB.out.cell (World.block_lt_of_cell? w _ hx314_0)).trans hx314_0
                    replace hx314_1 := (HB.out.cell (World.block_lt_of_cell? w _ hx314_1)).trans hx314_1
                    replace p314 := eq_true p314
                    replace q314 := eq_true q314
                    have p315 : 0 ≤ (x6_1 : Int) := of_decide_eq_true (by (with_reducible assumption))
                    have q315 : x6_1 < (l0.length : Int) := of_decide_eq_true (by (with_reducible assumption))
                    obtain ⟨ad315, e315, hx315_0, hx315_1⟩ := at_T40 HR0.out x6_1 p315 q315
                    obtain rfl : ad307 = ad315 := (by injection e315)
                    replace hx315_0 := (HB.out.cell (World.block_lt_of_cell? w _ hx315_0)).trans hx315_0
                    replace hx315_1 := (HB.out.cell (World.block_lt_of_cell? w _ hx315_1)).trans hx315_1
                    replace p315 := eq_true p315
                    replace q315 := eq_true q315
                    go_wp2
                    repeat (go_quiet (fail); try go_wp2)
                    go_meet
                    case rel => exact ⟨_, (decide (((rd_T40 l1 x8_2).f0) > ((rd_T40 l0 x6_1).f1))), (by rfl), H', ⟨by have := HK1.out; have := HK2.out; omega⟩, ⟨by (with_reducible repeat (apply Kd.R_drewN)); exact HO_5.out⟩, ⟨by repeat ((with_reducible first | exact HB.out | apply pw_below_drewN))⟩⟩
                  · rw [if_neg c10] at H
                    exact absurd H (by simp)
                · rw [if_neg c9] at H
                  exact absurd H (by simp)
            · rw [if_neg c7] at H
              exact absurd H (by simp)
           case rest =>
            clear HC6
            try clear c5b0
            obtain ⟨kq, x45_5, rfl, HA, HJ5, HO_5, HB⟩ := hcut
            cases kq with
            | zero => exact absurd HA.out (by simp [formeref03_less.j2])
            | succ kj5 =>
             have H := HA.out
             clear HA
             simp only [formeref03_less.j2] at H
             by_cases c11 : x45_5 = true
             · subst c11
               have H1 : (formeref03_less.l1 kj5 l0 l1 x5_2 x6_1 x7_2 (wrap64 (x8_2 + 1))) = some r := by rw [if_pos rfl] at H; exact H
               clear H
               have H := H1
               clear H1
               have H' := Aside0.mk H
               clear H
               go_wp2
               repeat (go_quiet (fail); try go_wp2)
               go_roundg kj5
               case measure => have := HK1.out; have := HK2.out; have := HJ5.out; omega
               case rel => exact ⟨(x5_2), (x7_2), (wrap64 (x8_2 + 1)), (by rfl), (by rfl), H', ⟨by have := HK1.out; have := HK2.out; have := HJ5.out; omega⟩, ⟨by (with_reducible repeat (fail)); exact HO_5.out⟩, ⟨by repeat ((with_reducible exact HB.out))⟩⟩
             · replace c11 := Bool.eq_false_iff.mpr c11
               subst c11
               have H1 : (if 0 ≤ x8_2 then (if x8_2 < (l1.length : Int) then (if ((rd_T40 l1 x8_2).f0) > x7_2 then (if x5_2.length < 8796093022208 then (formeref03_less.l1 kj5 l0 l1 (x5_2 ++ [(⟨x7_2, wrap64 (((rd_T40 l1 x8_2).f0) - 1)⟩ : S40)]) x6_1 (wrap64 (((rd_T40 l1 x8_2).f1) + 1)) (wrap64 (x8_2 + 1))) else (none)) else (formeref03_less.l1 kj5 l0 l1 x5_2 x6_1 (wrap64 (((rd_T40 l1 x8_2).f1) + 1)) (wrap64 (x8_2 + 1)))) else (none)) else (none)) = some r := by rw [if_neg (show ¬ (false = true) by decide)] at H; exact H
               clear H
               have H := H1
               clear H1
               by_cases c12 : 0 ≤ x8_2
               · rw [if_pos c12] at H
                 have c12b0 : decide (0 ≤ x8_2) = true := decide_eq_true c12
                 clear c12
                 by_cases c13 : x8_2 < (l1.length : Int)
                 · rw [if_pos c13] at H
                   have c13b0 : decide (x8_2 < (l1.length : Int)) = true := decide_eq_true c13
                   clear c13
                   by_cases c14 : ((rd_T40 l1 x8_2).f0) > x7_2
                   · rw [if_pos c14] at H
                     have c14b0 : decide (x7_2 < ((rd_T40 l1 x8_2).f0)) = true := decide_eq_true c14
                     clear c14
                     by_cases c15 : x5_2.length < 8796093022208
                     · rw [if_pos c15] at H
                       have LMc15 := Aside0.mk c15
                       clear c15
                       obtain ⟨y318, hy318⟩ : ∃ y_ : List (S40), y_ = (x5_2 ++ [(⟨x7_2, wrap64 (((rd_T40 l1 x8_2).f0) - 1)⟩ : S40)]) := ⟨_, rfl⟩
                       replace H : (formeref03_less.l1 kj5 l0 l1 y318 x6_1 (wrap64 (((rd_T40 l1 x8_2).f1) + 1)) (wrap64 (x8_2 + 1))) = some r := by (rw [hy318]; with_reducible exact H)
                       have Ny318 := Aside0.mk hy318
                       clear hy318
                       have H' := Aside0.mk H
                       clear H
                       have p316 : 0 ≤ (x8_2 : Int) := of_decide_eq_true (by (with_reducible assumption))
                       have q316 : x8_2 < (l1.length : Int) := of_decide_eq_true (by (with_reducible assumption))
                       obtain ⟨ad316, e316, hx316_0, hx316_1⟩ := at_T40 HR1.out x8_2 p316 q316
                       cases e316
                       replace hx316_0 := (HB.out.cell (World.block_lt_of_cell? w _ hx316_0)).trans hx316_0
                       replace hx316_1 := (HB.out.cell (World.block_lt_of_cell? w _ hx316_1)).trans hx316_1
                       replace p316 := eq_true p316
                       replace q316 := eq_true q316
                       have p317 : 0 ≤ (x8_2 : Int) := of_decide_eq_true (by (with_reducible assumption))
                       have q317 : x8_2 < (l1.length : Int) := of_decide_eq_true (by (with_reducible assumption))
                       obtain ⟨ad317, e317, hx317_0, hx317_1⟩ := at_T40 HR1.out x8_2 p317 q317
                       obtain rfl : ad316 = ad317 := (by injection e317)
                       replace hx317_0 := (HB.out.cell (World.block_lt_of_cell? w _ hx317_0)).trans hx317_0
                       replace hx317_1 := (HB.out.cell (World.block_lt_of_cell? w _ hx317_1)).trans hx317_1
                       replace p317 := eq_true p317
                       replace q317 := eq_true q317
                       go_wp2_with (((with_reducible refine gate_builtin (b := .append) (xs := #[.tmp 53, .tmp 62]) rfl ?_); at_builtin; refine Kd.R_append k40 (w0 := w) w.heap.size rfl (.tmp 53) (.tmp 62) 62 40 (.agg #[(.int .i64 0), (.int .i64 0)]) 16 rfl Tryz.underlying62 info40 rfl (by decide) (by omega) u5 x5_2 (⟨x7_2, wrap64 (((rd_T40 l1 x8_2).f0) - 1)⟩ : S40) [.int .i64 x7_2, .int .i64 (wrap64 (((rd_T40 l1 x8_2).f0) - 1))] (fun _ => True) (fun _ => False) rfl rfl ?aP (fun _ hk => hk.elim) ?aF ?aO ?aB ?aS ?aL ?_; (case aP => exact k40_mkM _ _ _ (⟨x7_2, wrap64 (((rd_T40 l1 x8_2).f0) - 1)⟩ : S40)); (case aB => exact (by repeat ((with_reducible exact HB.out)))); (case aF => exact (fun _ _ => trivial)); (case aO => exact (by (with_reducible repeat (fail)); exact HO_5.out)); (case aS => exact (below_size (by repeat ((with_reducible exact HB.out))))); (case aL => have := LMc15.out; omega); intro v319 w16 ho hb hg hat; rw [← Ny318.out] at ho; have n0_ := Aside0.mk (hb); have n1_ := Aside0.mk (ho); clear HB; clear HO_5; have HB := n0_; have HO320 := n1_; clear n0_ n1_; clear ho hb hg hat; have p321 : 0 ≤ (x8_2 : Int) := of_decide_eq_true (by (with_reducible assumption)); have q321 : x8_2 < (l1.length : Int) := of_decide_eq_true (by (with_reducible assumption)); obtain ⟨ad321, e321, hx321_0, hx321_1⟩ := at_T40 HR1.out x8_2 p321 q321; obtain rfl : ad316 = ad321 := (by injection e321); replace hx321_0 := (HB.out.cell (World.block_lt_of_cell? w _ hx321_0)).trans hx321_0; replace hx321_1 := (HB.out.cell (World.block_lt_of_cell? w _ hx321_1)).trans hx321_1; replace p321 := eq_true p321; replace q321 := eq_true q321))
                       repeat (go_quiet (fail); try go_wp2_with (fail))
                       go_roundg kj5
                       case measure => have := HK1.out; have := HK2.out; have := HJ5.out; omega
                       case rel => exact ⟨(y318), (wrap64 (((rd_T40 l1 x8_2).f1) + 1)), (wrap64 (x8_2 + 1)), (by rfl), (by rfl), H', ⟨by have := HK1.out; have := HK2.out; have := HJ5.out; omega⟩, ⟨by (with_reducible repeat (fail)); exact HO320.out⟩, ⟨by repeat ((with_reducible exact HB.out))⟩⟩
                     · rw [if_neg c15] at H
                       exact absurd H (by simp)
                   · rw [if_neg c14] at H
                     have c14b0 : decide (x7_2 < ((rd_T40 l1 x8_2).f0)) = false := decide_eq_false c14
                     clear c14
                     have H' := Aside0.mk H
                     clear H
                     have p316 : 0 ≤ (x8_2 : Int) := of_decide_eq_true (by (with_reducible assumption))
                     have q316 : x8_2 < (l1.length : Int) := of_decide_eq_true (by (with_reducible assumption))
                     obtain ⟨ad316, e316, hx316_0, hx316_1⟩ := at_T40 HR1.out x8_2 p316 q316
                     cases e316
                     replace hx316_0 := (HB.out.cell (World.block_lt_of_cell? w _ hx316_0)).trans hx316_0
                     replace hx316_1 := (HB.out.cell (World.block_lt_of_cell? w _ hx316_1)).trans hx316_1
                     replace p316 := eq_true p316
                     replace q316 := eq_true q316
                     have p322 : 0 ≤ (x8_2 : Int) := of_decide_eq_true (by (with_reducible assumption))
                     have q322 : x8_2 < (l1.length : Int) := of_decide_eq_true (by (with_reducible assumption))
                     obtain ⟨ad322, e322, hx322_0, hx322_1⟩ := at_T40 HR1.out x8_2 p322 q322
                     obtain rfl : ad316 = ad322 := (by injection e322)
                     replace hx322_0 := (HB.out.cell (World.block_lt_of_cell? w _ hx322_0)).trans hx322_0
                     replace hx322_1 := (HB.out.cell (World.block_lt_of_cell? w _ hx322_1)).trans hx322_1
                     replace p322 := eq_true p322
                     replace q322 := eq_true q322
                     go_wp2
                     repeat (go_quiet (fail); try go_wp2)
                     go_roundg kj5
                     case measure => have := HK1.out; have := HK2.out; have := HJ5.out; omega
                     case rel => exact ⟨(x5_2), (wrap64 (((rd_T40 l1 x8_2).f1) + 1)), (wrap64 (x8_2 + 1)), (by rfl), (by rfl), H', ⟨by have := HK1.out; have := HK2.out; have := HJ5.out; omega⟩, ⟨by (with_reducible repeat (fail)); exact HO_5.out⟩, ⟨by repeat ((with_reducible exact HB.out))⟩⟩
                 · rw [if_neg c13] at H
                   exact absurd H (by simp)
               · rw [if_neg c12] at H
                 exact absurd H (by simp)
         · rw [if_neg c5] at H
           have c5b0 : decide (x8_2 < (l1.length : Int)) = false := decide_eq_false c5
           clear c5
           by_cases c17 : 0 ≤ x6_1
           · rw [if_pos c17] at H
             have c17b0 : decide (0 ≤ x6_1) = true := decide_eq_true c17
             clear c17
             by_cases c18 : x6_1 < (l0.length : Int)
             · rw [if_pos c18] at H
               have c18b0 : decide (x6_1 < (l0.length : Int)) = true := decide_eq_true c18
               clear c18
               by_cases c19 : x7_2 ≤ ((rd_T40 l0 x6_1).f1)
               · rw [if_pos c19] at H
                 have c19b0 : decide (x7_2 ≤ ((rd_T40 l0 x6_1).f1)) = true := decide_eq_true c19
                 clear c19
                 by_cases c20 : x5_2.length < 8796093022208
                 · rw [if_pos c20] at H
                   have LMc20 := Aside0.mk c20
                   clear c20
                   obtain ⟨y310, hy310⟩ : ∃ y_ : List (S40), y_ = (x5_2 ++ [(⟨x7_2, (rd_T40 l0 x6_1).f1⟩ : S40)]) := ⟨_, rfl⟩
                   replace H : (formeref03_less.l0 k2 l0 l1 y310 (wrap64 (x6_1 + 1))) = some r := by (rw [hy310]; with_reducible exact H)
                   have Ny310 := Aside0.mk hy310
                   clear hy310
                   have H' := Aside0.mk H
                   clear H
                   have p308 : 0 ≤ (x6_1 : Int) := of_decide_eq_true (by (with_reducible assumption))
                   have q308 : x6_1 < (l0.length : Int) := of_decide_eq_true (by (with_reducible assumption))
                   obtain ⟨ad308, e308, hx308_0, hx308_1⟩ := at_T40 HR0.out x6_1 p308 q308
                   obtain rfl : ad307 = ad308 := (by injection e308)
                   replace hx308_0 := (HB.out.cell (World.block_lt_of_cell? w _ hx308_0)).trans hx308_0
                   replace hx308_1 := (HB.out.cell (World.block_lt_of_cell? w _ hx308_1)).trans hx308_1
                   replace p308 := eq_true p308
                   replace q308 := eq_true q308
                   have p309 : 0 ≤ (x6_1 : Int) := of_decide_eq_true (by (with_reducible assumption))
                   have q309 : x6_1 < (l0.length : Int) := of_decide_eq_true (by (with_reducible assumption))
                   obtain ⟨ad309, e309, hx309_0, hx309_1⟩ := at_T40 HR0.out x6_1 p309 q309
                   obtain rfl : ad307 = ad309 := (by injection e309)
                   replace hx309_0 := (HB.out.cell (World.block_lt_of_cell? w _ hx309_0)).trans hx309_0
                   replace hx309_1 := (HB.out.cell (World.block_lt_of_cell? w _ hx309_1)).trans hx309_1
                   replace p309 := eq_true p309
                   replace q309 := eq_true q309
                   go_wp2_with (((with_reducible refine gate_builtin (b := .append) (xs := #[.tmp 77, .tmp 85]) rfl ?_); at_builtin; refine Kd.R_append k40 (w0 := w) w.heap.size rfl (.tmp 77) (.tmp 85) 62 40 (.agg #[(.int .i64 0), (.int .i64 0)]) 16 rfl Tryz.underlying62 info40 rfl (by decide) (by omega) u5 x5_2 (⟨x7_2, (rd_T40 l0 x6_1).f1⟩ : S40) [.int .i64 x7_2, .int .i64 ((rd_T40 l0 x6_1).f1)] (fun _ => True) (fun _ => False) rfl rfl ?aP (fun _ hk => hk.elim) ?aF ?aO ?aB ?aS ?aL ?_; (case aP => exact k40_mkM _ _ _ (⟨x7_2, (rd_T40 l0 x6_1).f1⟩ : S40)); (case aB => exact (by repeat ((with_reducible exact HB.out)))); (case aF => exact (fun _ _ => trivial)); (case aO => exact (by (with_reducible repeat (fail)); exact HO_5.out)); (case aS => exact (below_size (by repeat ((with_reducible exact HB.out))))); (case aL => have := LMc20.out; omega); intro v311 w21 ho hb hg hat; rw [← Ny310.out] at ho; have n0_ := Aside0.mk (hb); have n1_ := Aside0.mk (ho); clear HB; clear HO_5; have HB := n0_; have HO312 := n1_; clear n0_ n1_; clear ho hb hg hat))
                   repeat (go_quiet (fail); try go_wp2_with (fail))
                   go_roundg k2
                   case measure => have := HK1.out; have := HK2.out; omega
                   case rel => exact ⟨(y310), (wrap64 (x6_1 + 1)), (by rfl), H', ⟨by have := HK1.out; have := HK2.out; omega⟩, ⟨by (with_reducible repeat (fail)); exact HO312.out⟩, ⟨by repeat ((with_reducible exact HB.out))⟩⟩
                 · rw [if_neg c20] at H
                   exact absurd H (by simp)
               · rw [if_neg c19] at H
                 have c19b0 : decide (x7_2 ≤ ((rd_T40 l0 x6_1).f1)) = false := decide_eq_false c19
                 clear c19
                 have H' := Aside0.mk H
                 clear H
                 have p308 : 0 ≤ (x6_1 : Int) := of_decide_eq_true (by (with_reducible assumption))
                 have q308 : x6_1 < (l0.length : Int) := of_decide_eq_true (by (with_reducible assumption))
                 obtain ⟨ad308, e308, hx308_0, hx308_1⟩ := at_T40 HR0.out x6_1 p308 q308
                 obtain rfl : ad307 = ad308 := (by injection e308)
                 replace hx308_0 := (HB.out.cell (World.block_lt_of_cell? w _ hx308_0)).trans hx308_0
                 replace hx308_1 := (HB.out.cell (World.block_lt_of_cell? w _ hx308_1)).trans hx308_1
                 replace p308 := eq_true p308
                 replace q308 := eq_true q308
                 go_wp2
                 repeat (go_quiet (fail); try go_wp2)
                 go_roundg k2
                 case measure => have := HK1.out; have := HK2.out; omega
                 case rel => exact ⟨(x5_2), (wrap64 (x6_1 + 1)), (by rfl), H', ⟨by have := HK1.out; have := HK2.out; omega⟩, ⟨by (with_reducible repeat (fail)); exact HO_5.out⟩, ⟨by repeat ((with_reducible exact HB.out))⟩⟩
             · rw [if_neg c18] at H
               exact absurd H (by simp)
           · rw [if_neg c17] at H
             exact absurd H (by simp)
     · rw [if_neg c4] at H
       exact absurd H (by simp)
   · rw [if_neg c3] at H
     have c3b0 : decide (x6_1 < (l0.length : Int)) = false := decide_eq_false c3
     clear c3
     obtain rfl := Option.some.inj H
     go_wp2
     repeat (go_quiet (fail); try go_wp2)
     go_ret
     exact ⟨_, by rfl, by (with_reducible repeat (fail)); exact HO_5.out, by repeat ((with_reducible exact HB.out))⟩
end Go.Proofs.YtacohlafmbhcdaaGreat.PAll
