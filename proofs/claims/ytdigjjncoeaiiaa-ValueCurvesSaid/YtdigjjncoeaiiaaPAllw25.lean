/- Printed by a program of this session (wip/gprint.py) over the translation, cut to what is named (wip/dcut.py). Not trusted: Lean checks it. -/
import Derived.Test.YtdigjjncoeaiiaaPAlld0
import Derived.Test.YtdigjjncoeaiiaaPAllw1
import Derived.Test.YtdigjjncoeaiiaaPAllw23
import Derived.Test.YtdigjjncoeaiiaaPAllw30
import Derived.Test.YtdigjjncoeaiiaaPAllw29
import Derived.Test.YtdigjjncoeaiiaaPAllw12
import Derived.Test.YtdigjjncoeaiiaaVaParts
namespace Go.Proofs.Ytdigjjncoeaiiaa.PAll
open Go.RowKit Go.Proofs.YtdigjjncoeaiiaaW.PrintWords Go.Proofs.YtdigjjncoeaiiaaW.PrintLast Go.Proofs.YtdigjjncoeaiiaaW.PrintMore
attribute [local go_sem] max2_int min2_int max_two min_two max_three min_three max_four min_four -- for this text's walks alone
set_option linter.unusedVariables false
set_option linter.unusedSimpArgs false
section
open Go.Proofs.YtdigjjncoeaiiaaGlib
theorem evalX {e : S24} {width scale x0 x1 x2 x3 x4 x5 x6 x7 a b : Int} (h : evalP e width scale [x0, x1, x2, x3, x4, x5, x6, x7] = (a, b)) (A : Option Addr) (c : Nat) (w : World) (hr : Kd.C k24 w A e.f2.length e.f2) (hc : e.f2.length ≤ c) :
  Calls Try.prog 11 #[.agg #[.int .i64 e.f0, .int .i64 e.f1, .slice A e.f2.length c], .int .i64 width, .int .i64 scale, .agg #[.int .i64 x0, .int .i64 x1, .int .i64 x2, .int .i64 x3, .int .i64 x4, .int .i64 x5, .int .i64 x6, .int .i64 x7]] w fun r w' =>
   r = .returned (.tuple #[.int .i64 a, .int .i64 b]) ∧ Below w.heap.size w w' := by
 have h2 := eval2_calls e width scale x0 x1 x2 x3 x4 x5 x6 x7 A c w hr hc
 rw [h] at h2
 exact h2
set_option maxHeartbeats 8000000 in
set_option maxRecDepth 100000 in
theorem head_calls (w : World) : Calls Try.prog 10 #[] w fun e w' => e = .returned (.bool true) ∧ Below w.heap.size w w' := by
 have E1 := Aside0.mk (fun W => (show Calls Try.prog 11 #[.agg #[.int .i64 2, .int .i64 33, .slice none 0 0], .int .i64 250, .int .i64 150, .agg #[.int .i64 0, .int .i64 31, .int .i64 0, .int .i64 0, .int .i64 0, .int .i64 0, .int .i64 0, .int .i64 0]] W _ from evalX ex_1 none 0 W (Kd.C_nil _ _) (Nat.le_refl _)))
 have E2 := Aside0.mk (fun W => (show Calls Try.prog 11 #[.agg #[.int .i64 3, .int .i64 5, .slice none 0 0], .int .i64 250, .int .i64 150, .agg #[.int .i64 0, .int .i64 31, .int .i64 0, .int .i64 0, .int .i64 0, .int .i64 0, .int .i64 0, .int .i64 0]] W _ from evalX ex_2 none 0 W (Kd.C_nil _ _) (Nat.le_refl _)))
 have E3 := Aside0.mk (fun W => (show Calls Try.prog 11 #[.agg #[.int .i64 3, .int .i64 (-5), .slice none 0 0], .int .i64 250, .int .i64 150, .agg #[.int .i64 0, .int .i64 31, .int .i64 0, .int .i64 0, .int .i64 0, .int .i64 0, .int .i64 0, .int .i64 0]] W _ from evalX ex_3 none 0 W (Kd.C_nil _ _) (Nat.le_refl _)))
 have E4 := Aside0.mk (fun A c W h hc => (show Calls Try.prog 11 #[.agg #[.int .i64 8, .int .i64 2, .slice A 1 c], .int .i64 250, .int .i64 150, .agg #[.int .i64 0, .int .i64 31, .int .i64 0, .int .i64 0, .int .i64 0, .int .i64 0, .int .i64 0, .int .i64 0]] W _ from evalX ex_4 A c W h hc))
 have E5 := Aside0.mk (fun A c W h hc => (show Calls Try.prog 11 #[.agg #[.int .i64 8, .int .i64 2, .slice A 1 c], .int .i64 250, .int .i64 49, .agg #[.int .i64 0, .int .i64 31, .int .i64 0, .int .i64 0, .int .i64 0, .int .i64 0, .int .i64 0, .int .i64 0]] W _ from evalX ex_5 A c W h hc))
 have TW := Aside0.mk (fun W => (show Calls Try.prog 22 #[.int .i64 6, .agg #[.int .i64 2, .int .i64 100, .slice none 0 0], .agg #[.int .i64 4, .int .i64 2, .slice none 0 0]] W _ from formelaw14_two.calls 6 2 100 (fun _ => False) none 0 [] 4 2 (fun _ => False) none 0 [] 6 0 [⟨2, 100, []⟩, ⟨4, 2, []⟩] W (Kd.V_nil _ _ _ _ _) (Kd.V_nil _ _ _ _ _) rfl))
 have ON := Aside0.mk (fun A c P W h => (show Calls Try.prog 23 #[.int .i64 8, .int .i64 2, .agg #[.int .i64 6, .int .i64 0, .slice A 2 c]] W _ from formelaw14_one.calls 8 2 6 0 P A c [⟨2, 100, []⟩, ⟨4, 2, []⟩] 8 2 lessE.f2 W h rfl))
 have US := Aside0.mk (fun A c W h hc => (show Calls Try.prog 15 #[.agg #[.int .i64 8, .int .i64 2, .slice A 1 c]] W _ from value_Uses.calls 8 2 A c lessE.f2 [2] 0 W h hc (congrArg some ex_uses)))
 have CU := Aside0.mk (fun A c W h hc => (show Calls Try.prog 19 #[.agg #[.int .i64 8, .int .i64 2, .slice A 1 c], .agg #[.int .i64 250, .int .i64 253], .int .i64 150, .agg #[.int .i64 0, .int .i64 31, .int .i64 0, .int .i64 0, .int .i64 0, .int .i64 0, .int .i64 0, .int .i64 0]] W _ from value_Curve.calls 20 8 2 A c lessE.f2 250 253 150 0 31 0 0 0 0 0 0 partL 0 W h hc ex_curve))
 have SM := Aside0.mk (fun A c B d W h hc h2 hc2 => (show Calls Try.prog 21 #[.slice A 1 c, .slice B 1 d] W _ from formeref02_Same.calls 9 A c partL B d partL true W h hc h2 hc2 ex_same))
 have VA := Aside0.mk (fun W => (show Calls Try.prog 13 #[.agg #[.int .i64 0, .int .i64 0, .slice none 0 0]] W _ from valid_calls ⟨0, 0, []⟩ none 0 W (Kd.C_nil _ _) (Nat.le_refl _)))
 rw [ex_bad] at VA
 have G0 := Aside0.mk (blk_new w (.cells #[.int .i64 0, .int .i64 31, .int .i64 0, .int .i64 0, .int .i64 0, .int .i64 0, .int .i64 0, .int .i64 0] 25))
 have HB0 := Aside0.mk (below_alloc (Below.refl w.heap.size w) (.cells #[.int .i64 0, .int .i64 31, .int .i64 0, .int .i64 0, .int .i64 0, .int .i64 0, .int .i64 0, .int .i64 0] 25))
 go_enter Try.func10, Try.ntmps10
 go_wp2_with fail
 generalize w.alloc (.cells #[.int .i64 0, .int .i64 31, .int .i64 0, .int .i64 0, .int .i64 0, .int .i64 0, .int .i64 0, .int .i64 0] 25) = W0 at *
 with_reducible refine (E1.out _).mono ?_
 rintro r w1 ⟨rfl, hb⟩
 have G1 := Aside0.mk (blk_below G0.out hb)
 have HB1 := Aside0.mk (below_step HB0.out hb)
 clear hb G0 HB0 E1
 have v0 := (blk_cell G1.out 0).trans rfl
 have v1 := (blk_cell G1.out 1).trans rfl
 have v2 := (blk_cell G1.out 2).trans rfl
 have v3 := (blk_cell G1.out 3).trans rfl
 have v4 := (blk_cell G1.out 4).trans rfl
 have v5 := (blk_cell G1.out 5).trans rfl
 have v6 := (blk_cell G1.out 6).trans rfl
 have v7 := (blk_cell G1.out 7).trans rfl
 go_wp2_with fail
 with_reducible refine (E2.out _).mono ?_
 rintro r w2 ⟨rfl, hb⟩
 have G2 := Aside0.mk (blk_below G1.out hb)
 have HB2 := Aside0.mk (below_step HB1.out hb)
 clear hb G1 HB1 E2 v0 v1 v2 v3 v4 v5 v6 v7
 have v0 := (blk_cell G2.out 0).trans rfl
 have v1 := (blk_cell G2.out 1).trans rfl
 have v2 := (blk_cell G2.out 2).trans rfl
 have v3 := (blk_cell G2.out 3).trans rfl
 have v4 := (blk_cell G2.out 4).trans rfl
 have v5 := (blk_cell G2.out 5).trans rfl
 have v6 := (blk_cell G2.out 6).trans rfl
 have v7 := (blk_cell G2.out 7).trans rfl
 go_wp2_with fail
 with_reducible refine (E3.out _).mono ?_
 rintro r w3 ⟨rfl, hb⟩
 have G3 := Aside0.mk (blk_below G2.out hb)
 have HB3 := Aside0.mk (below_step HB2.out hb)
 clear hb G2 HB2 E3 v0 v1 v2 v3 v4 v5 v6 v7
 go_wp2_with fail
 with_reducible refine (TW.out _).mono ?_
 rintro r w4 ⟨v2, rfl, hN, hb⟩
 have HV4 := Aside0.mk (Kd.N_V (base' := w4.heap.size) hN)
 have G4 := Aside0.mk (blk_below G3.out hb)
 have HB4 := Aside0.mk (below_step HB3.out hb)
 clear hb hN G3 HB3 TW
 obtain ⟨A2, c2, hv⟩ := Kd.V_slice HV4.out
 have hv : v2 = .slice A2 2 c2 := hv
 subst hv
 go_wp2_with fail
 with_reducible refine (ON.out _ _ _ _ HV4.out).mono ?_
 rintro r w5 ⟨v5, rfl, hN, hb⟩
 have HV5 := Aside0.mk (Kd.N_V (base' := w5.heap.size) hN)
 have G5 := Aside0.mk (blk_below G4.out hb)
 have HB5 := Aside0.mk (below_step HB4.out hb)
 clear hb hN G4 HB4 ON HV4
 obtain ⟨A5, c5, hv⟩ := Kd.V_slice HV5.out
 have hv : v5 = .slice A5 1 c5 := hv
 subst hv
 have HC5 := Aside0.mk (Kd.V_reads' HV5.out)
 clear HV5
 have K6 := Aside0.mk (blk_new w5 (.cells #[.int .i64 8, .int .i64 2, .slice A5 1 c5] 24))
 have G6 := Aside0.mk (blk_alloc G5.out (.cells #[.int .i64 8, .int .i64 2, .slice A5 1 c5] 24))
 have HB6 := Aside0.mk (below_alloc HB5.out (.cells #[.int .i64 8, .int .i64 2, .slice A5 1 c5] 24))
 have HC6 := Aside0.mk (Kd.C_alloc HC5.out.2.2 (.cells #[.int .i64 8, .int .i64 2, .slice A5 1 c5] 24))
 have HL5 := HC5.out.2.1
 clear G5 HB5 HC5
 have v0 := (blk_cell G6.out 0).trans rfl
 have v1 := (blk_cell G6.out 1).trans rfl
 have v2 := (blk_cell G6.out 2).trans rfl
 have v3 := (blk_cell G6.out 3).trans rfl
 have v4 := (blk_cell G6.out 4).trans rfl
 have v5 := (blk_cell G6.out 5).trans rfl
 have v6 := (blk_cell G6.out 6).trans rfl
 have v7 := (blk_cell G6.out 7).trans rfl
 have k0 := (blk_cell K6.out 0).trans rfl
 have k1 := (blk_cell K6.out 1).trans rfl
 have k2 := (blk_cell K6.out 2).trans rfl
 go_wp2_with fail
 with_reducible refine (E4.out _ _ _ HC6.out HL5).mono ?_
 rintro r w6 ⟨rfl, hb⟩
 have G7 := Aside0.mk (blk_below G6.out hb)
 have K7 := Aside0.mk (blk_below K6.out hb)
 have HB7 := Aside0.mk (below_step HB6.out hb)
 have HC7 := Aside0.mk (Kd.C_below HC6.out hb)
 clear hb G6 K6 HB6 HC6 E4 v0 v1 v2 v3 v4 v5 v6 v7 k0 k1 k2
 have k0 := (blk_cell K7.out 0).trans rfl
 have k1 := (blk_cell K7.out 1).trans rfl
 have k2 := (blk_cell K7.out 2).trans rfl
 go_wp2_with fail
 with_reducible refine (US.out _ _ _ HC7.out HL5).mono ?_
 rintro r w7 ⟨v8, rfl, hR, hb⟩
 have G8 := Aside0.mk (blk_below G7.out hb)
 have K8 := Aside0.mk (blk_below K7.out hb)
 have HB8 := Aside0.mk (below_step HB7.out hb)
 have HC8 := Aside0.mk (Kd.C_below HC7.out hb)
 obtain ⟨A8, c8, hv⟩ := Kd.R_slice hR
 have hv : v8 = .slice A8 1 c8 := hv
 subst hv
 have HU8 := Aside0.mk (Kd.R_reads' hR).2.2
 clear hb hR G7 K7 HB7 HC7 US k0 k1 k2
 have k0 := (blk_cell K8.out 0).trans rfl
 have k1 := (blk_cell K8.out 1).trans rfl
 have k2 := (blk_cell K8.out 2).trans rfl
 have v0 := (blk_cell G8.out 0).trans rfl
 have v1 := (blk_cell G8.out 1).trans rfl
 have v2 := (blk_cell G8.out 2).trans rfl
 have v3 := (blk_cell G8.out 3).trans rfl
 have v4 := (blk_cell G8.out 4).trans rfl
 have v5 := (blk_cell G8.out 5).trans rfl
 have v6 := (blk_cell G8.out 6).trans rfl
 have v7 := (blk_cell G8.out 7).trans rfl
 go_wp2_with fail
 with_reducible refine (CU.out _ _ _ HC8.out HL5).mono ?_
 rintro r w8 ⟨v9, rfl, hR, hb⟩
 have G9 := Aside0.mk (blk_below G8.out hb)
 have K9 := Aside0.mk (blk_below K8.out hb)
 have HB9 := Aside0.mk (below_step HB8.out hb)
 have HC9 := Aside0.mk (Kd.C_below HC8.out hb)
 have HU9 := Aside0.mk (Kd.C_below HU8.out hb)
 obtain ⟨A9, c9, hv⟩ := Kd.R_slice hR
 have hv : v9 = .slice A9 1 c9 := hv
 subst hv
 have HP9 := Aside0.mk (Kd.R_reads' hR)
 clear hb hR G8 K8 HB8 HC8 HU8 CU v0 v1 v2 v3 v4 v5 v6 v7 k0 k1 k2
 have k0 := (blk_cell K9.out 0).trans rfl
 have k1 := (blk_cell K9.out 1).trans rfl
 have k2 := (blk_cell K9.out 2).trans rfl
 have v0 := (blk_cell G9.out 0).trans rfl
 have v1 := (blk_cell G9.out 1).trans rfl
 have v2 := (blk_cell G9.out 2).trans rfl
 have v3 := (blk_cell G9.out 3).trans rfl
 have v4 := (blk_cell G9.out 4).trans rfl
 have v5 := (blk_cell G9.out 5).trans rfl
 have v6 := (blk_cell G9.out 6).trans rfl
 have v7 := (blk_cell G9.out 7).trans rfl
 go_wp2_with fail
 with_reducible refine (E5.out _ _ _ HC9.out HL5).mono ?_
 rintro r w9 ⟨rfl, hb⟩
 have HB10 := Aside0.mk (below_step HB9.out hb)
 have HU10 := Aside0.mk (Kd.C_below HU9.out hb)
 have HP10 := Aside0.mk (Kd.C_below HP9.out.2.2 hb)
 have HL9 := HP9.out.2.1
 clear hb G9 K9 HB9 HC9 HU9 HP9 E5 v0 v1 v2 v3 v4 v5 v6 v7 k0 k1 k2
 obtain ⟨ad, rfl, hx⟩ := Kd.at_int HU10.out 0 (by decide) (by decide)
 rw [show ((0 : Int)).toNat = 0 from rfl, Addr.add_zero'] at hx
 have hx0 : w9.cell? ad = some (.int .i64 2) := hx
 clear hx
 go_wp2_with fail
 with_reducible refine (VA.out _).mono ?_
 rintro r w10 ⟨rfl, hb⟩
 have HB11 := Aside0.mk (below_step HB10.out hb)
 have HP11 := Aside0.mk (Kd.C_below HP10.out hb)
 clear hb HB10 HP10 HU10 VA
 go_wp2_with fail
 have HP12 := Aside0.mk (Kd.C_alloc HP11.out (.cells #[.int .i64 250, .int .i64 254, .int .i64 1, .int .i64 219, .int .i64 2] 57))
 have HB12 := Aside0.mk (below_alloc HB11.out (.cells #[.int .i64 250, .int .i64 254, .int .i64 1, .int .i64 219, .int .i64 2] 57))
 with_reducible refine (SM.out _ _ _ 1 _ HP12.out HL9 (C_blk57 (blk_new w10 (.cells #[.int .i64 250, .int .i64 254, .int .i64 1, .int .i64 219, .int .i64 2] 57))) (by decide)).mono ?_
 rintro r w11 ⟨rfl, hd⟩
 have HB13 := Aside0.mk (below_step HB12.out (Drawn0.below hd))
 clear hd HP12 HB12
 go_wp2
 go_ret
 exact ⟨rfl, HB13.out⟩
theorem formelaw14_head.calls (r : Bool) (w : World) (h : formelaw14_head.f = some r) : Calls Try.prog 10 #[] w fun e w' => e = .returned (.bool r) ∧ Below w.heap.size w w' := by
 obtain rfl := Option.some.inj h
 exact head_calls w
end
section
set_option maxHeartbeats 8000000 in
set_option maxRecDepth 100000 in
theorem quot_Valid.calls (a0_0 : Int) (a0_1 : Int) (a0_2 : Int) (r : Bool) (w : World) (h : quot_Valid.f a0_0 a0_1 a0_2 = some r) :
  Calls Try.prog 73 #[.agg #[.int .i64 a0_0, .int .i64 a0_1, .int .i64 a0_2]] w fun e w' => e = .returned (.bool r) ∧ Below w.heap.size w w' := by
 have hu55 := Try.underlying55
 have HB := Aside0.mk (Below.refl w.heap.size w)
 have H : (if 1 ≤ a0_2 then (if a0_2 ≤ 16 then ((quot_isCoord.f a0_0).bind fun t140 => (if t140 = true then ((quot_isCoord.f a0_1).bind fun t141 => (some t141)) else (some false))) else (some false)) else (some false)) = some r := h
 clear h
 by_cases c2 : 1 ≤ a0_2
 · rw [if_pos c2] at H
   have c2b0 : decide (1 ≤ a0_2) = true := decide_eq_true c2
   clear c2
   by_cases c3 : a0_2 ≤ 16
   · rw [if_pos c3] at H
     have c3b0 : decide (a0_2 ≤ 16) = true := decide_eq_true c3
     clear c3
     replace H := Option.bind_eq_some_iff.mp H
     obtain ⟨t140, A40, H⟩ := H
     replace H : (if t140 = true then ((quot_isCoord.f a0_1).bind fun t141 => (some t141)) else (some false)) = some r := H
     have A4 := Aside0.mk A40
     clear A40
     by_cases c5 : t140 = true
     · subst c5
       have H1 : ((quot_isCoord.f a0_1).bind fun t141 => (some t141)) = some r := by rw [if_pos rfl] at H; exact H
       clear H
       have H := H1
       clear H1
       replace H := Option.bind_eq_some_iff.mp H
       obtain ⟨t141, A60, H⟩ := H
       replace H : (some t141) = some r := H
       have A6 := Aside0.mk A60
       clear A60
       obtain rfl := Option.some.inj H
       go_enter Try.func73, Try.ntmps73
       go_wp2_with (first | ((with_reducible refine gate_dst (N := 1) rfl ?_); refine box_event ?hg (N := 1) ?hd (cs := #[.int .i64 a0_0, .int .i64 a0_1, .int .i64 a0_2]) (t := 55) ?hr ?_; (case hd => rfl); (case hg => rfl); (case hr => first | (go_simp; done) | (go_simp; rfl)); intro gb139 hg w7 hbox hb; have BK139 := Aside0.mk (hbox); have GW139 := Aside0.mk ((by rw [hg]; exact (below_size (by repeat (first | (with_reducible first | exact HB.out | apply below_alloc | apply pw_below_drewN | apply below_drew1) | exact HB.out))) : w.heap.size ≤ gb139)); have GE139 := Aside0.mk ((by rw [hg]; exact (below_size (by repeat (first | (with_reducible first | exact HB.out | apply below_alloc | apply pw_below_drewN | apply below_drew1) | exact HB.out))) : w.heap.size ≤ gb139)); replace HB := Aside0.mk (below_step (by repeat (first | (with_reducible first | exact HB.out | apply below_alloc | apply pw_below_drewN | apply below_drew1) | exact HB.out)) hb); clear hb hbox hg; have hcz8_0 : w7.cell? ⟨gb139, 0, none⟩ = some (.int .i64 a0_0) := (blk_cell BK139.out 0).trans rfl; have hcz8_1 : w7.cell? ⟨gb139, 1, none⟩ = some (.int .i64 a0_1) := (blk_cell BK139.out 1).trans rfl; have hcz8_2 : w7.cell? ⟨gb139, 2, none⟩ = some (.int .i64 a0_2) := (blk_cell BK139.out 2).trans rfl; have hfz8_0 := blk_frozen BK139.out 0; have hfz8_1 := blk_frozen BK139.out 1; have hfz8_2 := blk_frozen BK139.out 2) | (go_at_call 87; (with_reducible refine (quot_isCoord.calls a0_0 true _ A4.out).mono ?_); rintro e w' ⟨rfl, ⟨nd, rfl⟩⟩) | (go_at_call 87; (with_reducible refine (quot_isCoord.calls a0_1 t141 _ A6.out).mono ?_); rintro e w' ⟨rfl, ⟨nd, rfl⟩⟩))
       go_ret
       exact ⟨by first | rfl | (simp [errW_none, errW_some] <;> rfl) | (simp [*, errW_none, errW_some] <;> rfl), by repeat (first | (with_reducible first | exact HB.out | apply below_alloc | apply pw_below_drewN | apply below_drew1 | refine below_set ?_ GE139.out) | exact HB.out)⟩
     · replace c5 := Bool.eq_false_iff.mpr c5
       subst c5
       have H1 : (some false) = some r := by rw [if_neg (show ¬ (false = true) by decide)] at H; exact H
       clear H
       have H := H1
       clear H1
       obtain rfl := Option.some.inj H
       go_enter Try.func73, Try.ntmps73
       go_wp2_with (first | ((with_reducible refine gate_dst (N := 1) rfl ?_); refine box_event ?hg (N := 1) ?hd (cs := #[.int .i64 a0_0, .int .i64 a0_1, .int .i64 a0_2]) (t := 55) ?hr ?_; (case hd => rfl); (case hg => rfl); (case hr => first | (go_simp; done) | (go_simp; rfl)); intro gb139 hg w9 hbox hb; have BK139 := Aside0.mk (hbox); have GW139 := Aside0.mk ((by rw [hg]; exact (below_size (by repeat (first | (with_reducible first | exact HB.out | apply below_alloc | apply pw_below_drewN | apply below_drew1) | exact HB.out))) : w.heap.size ≤ gb139)); have GE139 := Aside0.mk ((by rw [hg]; exact (below_size (by repeat (first | (with_reducible first | exact HB.out | apply below_alloc | apply pw_below_drewN | apply below_drew1) | exact HB.out))) : w.heap.size ≤ gb139)); replace HB := Aside0.mk (below_step (by repeat (first | (with_reducible first | exact HB.out | apply below_alloc | apply pw_below_drewN | apply below_drew1) | exact HB.out)) hb); clear hb hbox hg; have hcz10_0 : w9.cell? ⟨gb139, 0, none⟩ = some (.int .i64 a0_0) := (blk_cell BK139.out 0).trans rfl; have hcz10_1 : w9.cell? ⟨gb139, 1, none⟩ = some (.int .i64 a0_1) := (blk_cell BK139.out 1).trans rfl; have hcz10_2 : w9.cell? ⟨gb139, 2, none⟩ = some (.int .i64 a0_2) := (blk_cell BK139.out 2).trans rfl; have hfz10_0 := blk_frozen BK139.out 0; have hfz10_1 := blk_frozen BK139.out 1; have hfz10_2 := blk_frozen BK139.out 2) | (go_at_call 87; (with_reducible refine (quot_isCoord.calls a0_0 false _ A4.out).mono ?_); rintro e w' ⟨rfl, ⟨nd, rfl⟩⟩))
       go_ret
       exact ⟨by first | rfl | (simp [errW_none, errW_some] <;> rfl) | (simp [*, errW_none, errW_some] <;> rfl), by repeat (first | (with_reducible first | exact HB.out | apply below_alloc | apply pw_below_drewN | apply below_drew1 | refine below_set ?_ GE139.out) | exact HB.out)⟩
   · rw [if_neg c3] at H
     have c3b0 : decide (a0_2 ≤ 16) = false := decide_eq_false c3
     clear c3
     obtain rfl := Option.some.inj H
     go_enter Try.func73, Try.ntmps73
     go_wp2_with (first | ((with_reducible refine gate_dst (N := 1) rfl ?_); refine box_event ?hg (N := 1) ?hd (cs := #[.int .i64 a0_0, .int .i64 a0_1, .int .i64 a0_2]) (t := 55) ?hr ?_; (case hd => rfl); (case hg => rfl); (case hr => first | (go_simp; done) | (go_simp; rfl)); intro gb139 hg w11 hbox hb; have BK139 := Aside0.mk (hbox); have GW139 := Aside0.mk ((by rw [hg]; exact (below_size (by repeat (first | (with_reducible first | exact HB.out | apply below_alloc | apply pw_below_drewN | apply below_drew1) | exact HB.out))) : w.heap.size ≤ gb139)); have GE139 := Aside0.mk ((by rw [hg]; exact (below_size (by repeat (first | (with_reducible first | exact HB.out | apply below_alloc | apply pw_below_drewN | apply below_drew1) | exact HB.out))) : w.heap.size ≤ gb139)); replace HB := Aside0.mk (below_step (by repeat (first | (with_reducible first | exact HB.out | apply below_alloc | apply pw_below_drewN | apply below_drew1) | exact HB.out)) hb); clear hb hbox hg; have hcz12_0 : w11.cell? ⟨gb139, 0, none⟩ = some (.int .i64 a0_0) := (blk_cell BK139.out 0).trans rfl; have hcz12_1 : w11.cell? ⟨gb139, 1, none⟩ = some (.int .i64 a0_1) := (blk_cell BK139.out 1).trans rfl; have hcz12_2 : w11.cell? ⟨gb139, 2, none⟩ = some (.int .i64 a0_2) := (blk_cell BK139.out 2).trans rfl; have hfz12_0 := blk_frozen BK139.out 0; have hfz12_1 := blk_frozen BK139.out 1; have hfz12_2 := blk_frozen BK139.out 2))
     go_ret
     exact ⟨by first | rfl | (simp [errW_none, errW_some] <;> rfl) | (simp [*, errW_none, errW_some] <;> rfl), by repeat (first | (with_reducible first | exact HB.out | apply below_alloc | apply pw_below_drewN | apply below_drew1 | refine below_set ?_ GE139.out) | exact HB.out)⟩
 · rw [if_neg c2] at H
   have c2b0 : decide (1 ≤ a0_2) = false := decide_eq_false c2
   clear c2
   obtain rfl := Option.some.inj H
   go_enter Try.func73, Try.ntmps73
   go_wp2_with (first | ((with_reducible refine gate_dst (N := 1) rfl ?_); refine box_event ?hg (N := 1) ?hd (cs := #[.int .i64 a0_0, .int .i64 a0_1, .int .i64 a0_2]) (t := 55) ?hr ?_; (case hd => rfl); (case hg => rfl); (case hr => first | (go_simp; done) | (go_simp; rfl)); intro gb139 hg w13 hbox hb; have BK139 := Aside0.mk (hbox); have GW139 := Aside0.mk ((by rw [hg]; exact (below_size (by repeat (first | (with_reducible first | exact HB.out | apply below_alloc | apply pw_below_drewN | apply below_drew1) | exact HB.out))) : w.heap.size ≤ gb139)); have GE139 := Aside0.mk ((by rw [hg]; exact (below_size (by repeat (first | (with_reducible first | exact HB.out | apply below_alloc | apply pw_below_drewN | apply below_drew1) | exact HB.out))) : w.heap.size ≤ gb139)); replace HB := Aside0.mk (below_step (by repeat (first | (with_reducible first | exact HB.out | apply below_alloc | apply pw_below_drewN | apply below_drew1) | exact HB.out)) hb); clear hb hbox hg; have hcz14_0 : w13.cell? ⟨gb139, 0, none⟩ = some (.int .i64 a0_0) := (blk_cell BK139.out 0).trans rfl; have hcz14_1 : w13.cell? ⟨gb139, 1, none⟩ = some (.int .i64 a0_1) := (blk_cell BK139.out 1).trans rfl; have hcz14_2 : w13.cell? ⟨gb139, 2, none⟩ = some (.int .i64 a0_2) := (blk_cell BK139.out 2).trans rfl; have hfz14_0 := blk_frozen BK139.out 0; have hfz14_1 := blk_frozen BK139.out 1; have hfz14_2 := blk_frozen BK139.out 2))
   go_ret
   exact ⟨by first | rfl | (simp [errW_none, errW_some] <;> rfl) | (simp [*, errW_none, errW_some] <;> rfl), by repeat (first | (with_reducible first | exact HB.out | apply below_alloc | apply pw_below_drewN | apply below_drew1 | refine below_set ?_ GE139.out) | exact HB.out)⟩
set_option maxHeartbeats 8000000 in
set_option maxRecDepth 100000 in
theorem quot_isPlace.calls (a0 : Int) (r : Bool) (w : World) (h : quot_isPlace.f a0 = some r) :
  Calls Try.prog 74 #[.int .i64 a0] w fun e w' => e = .returned (.bool r) ∧ Drawn0 w w' := by
 have H : (if 0 ≤ a0 then (some (decide (a0 ≤ 4000))) else (some false)) = some r := h
 clear h
 by_cases c2 : 0 ≤ a0
 · rw [if_pos c2] at H
   have c2b0 : decide (0 ≤ a0) = true := decide_eq_true c2
   clear c2
   obtain rfl := Option.some.inj H
   go_enter Try.func74, Try.ntmps74
   go_wp2
   go_ret
   exact ⟨by first | rfl | (simp; done) | (simp [*]; done), by repeat (first | exact Drawn0.refl _ | apply Drawn0.step)⟩
 · rw [if_neg c2] at H
   have c2b0 : decide (0 ≤ a0) = false := decide_eq_false c2
   clear c2
   obtain rfl := Option.some.inj H
   go_enter Try.func74, Try.ntmps74
   go_wp2
   go_ret
   exact ⟨by first | rfl | (simp; done) | (simp [*]; done), by repeat (first | exact Drawn0.refl _ | apply Drawn0.step)⟩
set_option maxHeartbeats 8000000 in
set_option maxRecDepth 100000 in
theorem quot_value.calls (a0_0 : Int) (a0_1 : Int) (a0_2 : Int) (a1 : Int) (r : Int) (w : World) (h : quot_value.f a0_0 a0_1 a0_2 a1 = some r) :
  Calls Try.prog 75 #[.agg #[.int .i64 a0_0, .int .i64 a0_1, .int .i64 a0_2], .int .i64 a1] w fun e w' => e = .returned (.int .i64 r) ∧ Below w.heap.size w w' := by
 have hu55 := Try.underlying55
 have HB := Aside0.mk (Below.refl w.heap.size w)
 have H : ((quot_floor.f (wrap64 ((wrap64 (a0_0 * a1)) + a0_1)) a0_2).bind fun t143 => (some t143)) = some r := h
 clear h
 replace H := Option.bind_eq_some_iff.mp H
 obtain ⟨t143, A30, H⟩ := H
 replace H : (some t143) = some r := H
 have A3 := Aside0.mk A30
 clear A30
 obtain rfl := Option.some.inj H
 go_enter Try.func75, Try.ntmps75
 go_wp2_with (first | ((with_reducible refine gate_dst (N := 2) rfl ?_); refine box_event ?hg (N := 2) ?hd (cs := #[.int .i64 a0_0, .int .i64 a0_1, .int .i64 a0_2]) (t := 55) ?hr ?_; (case hd => rfl); (case hg => rfl); (case hr => first | (go_simp; done) | (go_simp; rfl)); intro gb142 hg w4 hbox hb; have BK142 := Aside0.mk (hbox); have GW142 := Aside0.mk ((by rw [hg]; exact (below_size (by repeat (first | (with_reducible first | exact HB.out | apply below_alloc | apply pw_below_drewN | apply below_drew1) | exact HB.out))) : w.heap.size ≤ gb142)); have GE142 := Aside0.mk ((by rw [hg]; exact (below_size (by repeat (first | (with_reducible first | exact HB.out | apply below_alloc | apply pw_below_drewN | apply below_drew1) | exact HB.out))) : w.heap.size ≤ gb142)); replace HB := Aside0.mk (below_step (by repeat (first | (with_reducible first | exact HB.out | apply below_alloc | apply pw_below_drewN | apply below_drew1) | exact HB.out)) hb); clear hb hbox hg; have hcz5_0 : w4.cell? ⟨gb142, 0, none⟩ = some (.int .i64 a0_0) := (blk_cell BK142.out 0).trans rfl; have hcz5_1 : w4.cell? ⟨gb142, 1, none⟩ = some (.int .i64 a0_1) := (blk_cell BK142.out 1).trans rfl; have hcz5_2 : w4.cell? ⟨gb142, 2, none⟩ = some (.int .i64 a0_2) := (blk_cell BK142.out 2).trans rfl; have hfz5_0 := blk_frozen BK142.out 0; have hfz5_1 := blk_frozen BK142.out 1; have hfz5_2 := blk_frozen BK142.out 2) | ((with_reducible refine gate_callee (f := 88) rfl ?_); refine goesL_ (some 14) rfl rfl Try.func88 (by kernel_rfl) rfl #[.int .i64 (wrap64 ((wrap64 (a0_0 * a1)) + a0_1)), .int .i64 a0_2] rfl (by (try simp only [List.map_toArray, List.map_cons, List.map_nil]); first | done | rfl | (simp only [List.length_drop, List.length_take]; rfl)) ?_; (with_reducible refine (quot_floor.calls (wrap64 ((wrap64 (a0_0 * a1)) + a0_1)) a0_2 t143 _ A3.out).mono ?_); rintro e w' ⟨rfl, ⟨nd, rfl⟩⟩; refine ⟨_, rfl, ?_⟩))
 go_ret
 exact ⟨by first | rfl | (simp [errW_none, errW_some] <;> rfl) | (simp [*, errW_none, errW_some] <;> rfl), by repeat (first | (with_reducible first | exact HB.out | apply below_alloc | apply pw_below_drewN | apply below_drew1 | refine below_set ?_ GE142.out) | exact HB.out)⟩
set_option maxHeartbeats 8000000 in
set_option maxRecDepth 100000 in
theorem quot_At.calls (a0_0 : Int) (a0_1 : Int) (a0_2 : Int) (a1 : Int) (r1 : Int) (r2 : Int) (w : World) (h : quot_At.f a0_0 a0_1 a0_2 a1 = some (r1, r2)) :
  Calls Try.prog 43 #[.agg #[.int .i64 a0_0, .int .i64 a0_1, .int .i64 a0_2], .int .i64 a1] w fun e w' => e = .returned (.tuple #[.int .i64 r1, .int .i64 r2]) ∧ Below w.heap.size w w' := by
 have hu55 := Try.underlying55
 have HB := Aside0.mk (Below.refl w.heap.size w)
 have H : ((quot_Valid.f a0_0 a0_1 a0_2).bind fun t145 => (if t145 = true then ((quot_isPlace.f a1).bind fun t146 => (if t146 = true then ((quot_value.f a0_0 a0_1 a0_2 a1).bind fun t147 => (some (t147, 0))) else (some (0, 1)))) else (some (0, 1)))) = some (r1, r2) := h
 clear h
 replace H := Option.bind_eq_some_iff.mp H
 obtain ⟨t145, A30, H⟩ := H
 replace H : (if t145 = true then ((quot_isPlace.f a1).bind fun t146 => (if t146 = true then ((quot_value.f a0_0 a0_1 a0_2 a1).bind fun t147 => (some (t147, 0))) else (some (0, 1)))) else (some (0, 1))) = some (r1, r2) := H
 have A3 := Aside0.mk A30
 clear A30
 by_cases c4 : t145 = true
 · subst c4
   have H1 : ((quot_isPlace.f a1).bind fun t146 => (if t146 = true then ((quot_value.f a0_0 a0_1 a0_2 a1).bind fun t147 => (some (t147, 0))) else (some (0, 1)))) = some (r1, r2) := by rw [if_pos rfl] at H; exact H
   clear H
   have H := H1
   clear H1
   replace H := Option.bind_eq_some_iff.mp H
   obtain ⟨t146, A50, H⟩ := H
   replace H : (if t146 = true then ((quot_value.f a0_0 a0_1 a0_2 a1).bind fun t147 => (some (t147, 0))) else (some (0, 1))) = some (r1, r2) := H
   have A5 := Aside0.mk A50
   clear A50
   by_cases c6 : t146 = true
   · subst c6
     have H1 : ((quot_value.f a0_0 a0_1 a0_2 a1).bind fun t147 => (some (t147, 0))) = some (r1, r2) := by rw [if_pos rfl] at H; exact H
     clear H
     have H := H1
     clear H1
     replace H := Option.bind_eq_some_iff.mp H
     obtain ⟨t147, A70, H⟩ := H
     replace H : (some (t147, 0)) = some (r1, r2) := H
     have A7 := Aside0.mk A70
     clear A70
     simp only [Option.some.injEq, Prod.mk.injEq] at H
     obtain ⟨rfl, rfl⟩ := H
     go_enter Try.func43, Try.ntmps43
     go_wp2_with (first | ((with_reducible refine gate_dst (N := 2) rfl ?_); refine box_event ?hg (N := 2) ?hd (cs := #[.int .i64 a0_0, .int .i64 a0_1, .int .i64 a0_2]) (t := 55) ?hr ?_; (case hd => rfl); (case hg => rfl); (case hr => first | (go_simp; done) | (go_simp; rfl)); intro gb144 hg w8 hbox hb; have BK144 := Aside0.mk (hbox); have GW144 := Aside0.mk ((by rw [hg]; exact (below_size (by repeat (first | (with_reducible first | exact HB.out | apply below_alloc | apply pw_below_drewN | apply below_drew1) | exact HB.out))) : w.heap.size ≤ gb144)); have GE144 := Aside0.mk ((by rw [hg]; exact (below_size (by repeat (first | (with_reducible first | exact HB.out | apply below_alloc | apply pw_below_drewN | apply below_drew1) | exact HB.out))) : w.heap.size ≤ gb144)); replace HB := Aside0.mk (below_step (by repeat (first | (with_reducible first | exact HB.out | apply below_alloc | apply pw_below_drewN | apply below_drew1) | exact HB.out)) hb); clear hb hbox hg; have hcz9_0 : w8.cell? ⟨gb144, 0, none⟩ = some (.int .i64 a0_0) := (blk_cell BK144.out 0).trans rfl; have hcz9_1 : w8.cell? ⟨gb144, 1, none⟩ = some (.int .i64 a0_1) := (blk_cell BK144.out 1).trans rfl; have hcz9_2 : w8.cell? ⟨gb144, 2, none⟩ = some (.int .i64 a0_2) := (blk_cell BK144.out 2).trans rfl; have hfz9_0 := blk_frozen BK144.out 0; have hfz9_1 := blk_frozen BK144.out 1; have hfz9_2 := blk_frozen BK144.out 2) | ((with_reducible refine gate_callee (f := 73) rfl ?_); refine goesL_ (some 7) rfl rfl Try.func73 (by kernel_rfl) rfl #[.agg #[.int .i64 a0_0, .int .i64 a0_1, .int .i64 a0_2]] rfl (by (try simp only [List.map_toArray, List.map_cons, List.map_nil]); first | done | rfl | (simp only [List.length_drop, List.length_take]; rfl)) ?_; (with_reducible refine (quot_Valid.calls a0_0 a0_1 a0_2 true _ A3.out).mono ?_); rintro e w10 ⟨rfl, hb⟩; refine ⟨_, rfl, ?_⟩; replace BK144 := Aside0.mk (blk_below (g := gb144) (o := .cells #[.int .i64 a0_0, .int .i64 a0_1, .int .i64 a0_2] 55 (0, 0)) (by (with_reducible repeat (first | refine blk_drewN ?_ _ | refine blk_drew ?_ | refine blk_alloc ?_ _)); exact BK144.out) hb); replace HB := Aside0.mk (below_step (by repeat (first | (with_reducible first | exact HB.out | apply below_alloc | apply pw_below_drewN | apply below_drew1 | refine below_set ?_ GE144.out) | exact HB.out)) hb); (try clear hb); (try clear hb2); (try clear hk); (try clear hi)) | (go_at_call 74; (with_reducible refine (quot_isPlace.calls a1 true _ A5.out).mono ?_); rintro e w' ⟨rfl, ⟨nd, rfl⟩⟩; have hcz11_0 : w10.cell? ⟨gb144, 0, none⟩ = some (.int .i64 a0_0) := (blk_cell BK144.out 0).trans rfl; have hcz11_1 : w10.cell? ⟨gb144, 1, none⟩ = some (.int .i64 a0_1) := (blk_cell BK144.out 1).trans rfl; have hcz11_2 : w10.cell? ⟨gb144, 2, none⟩ = some (.int .i64 a0_2) := (blk_cell BK144.out 2).trans rfl; have hfz11_0 := blk_frozen BK144.out 0; have hfz11_1 := blk_frozen BK144.out 1; have hfz11_2 := blk_frozen BK144.out 2) | ((with_reducible refine gate_callee (f := 75) rfl ?_); refine goesL_ (some 16) rfl rfl Try.func75 (by kernel_rfl) rfl #[.agg #[.int .i64 a0_0, .int .i64 a0_1, .int .i64 a0_2], .int .i64 a1] rfl (by (try simp only [List.map_toArray, List.map_cons, List.map_nil]); first | done | rfl | (simp only [List.length_drop, List.length_take]; rfl)) ?_; (with_reducible refine (quot_value.calls a0_0 a0_1 a0_2 a1 t147 _ A7.out).mono ?_); rintro e w12 ⟨rfl, hb⟩; refine ⟨_, rfl, ?_⟩; replace BK144 := Aside0.mk (blk_below (g := gb144) (o := .cells #[.int .i64 a0_0, .int .i64 a0_1, .int .i64 a0_2] 55 (0, 0)) (by (with_reducible repeat (first | refine blk_drewN ?_ _ | refine blk_drew ?_ | refine blk_alloc ?_ _)); exact BK144.out) hb); replace HB := Aside0.mk (below_step (by repeat (first | (with_reducible first | exact HB.out | apply below_alloc | apply pw_below_drewN | apply below_drew1 | refine below_set ?_ GE144.out) | exact HB.out)) hb); (try clear hb); (try clear hb2); (try clear hk); (try clear hi)))
     go_ret2
     exact ⟨by first | rfl | (simp [errW_none, errW_some] <;> rfl) | (simp [*, errW_none, errW_some] <;> rfl), by repeat (first | (with_reducible first | exact HB.out | apply below_alloc | apply pw_below_drewN | apply below_drew1 | refine below_set ?_ GE144.out) | exact HB.out)⟩
   · replace c6 := Bool.eq_false_iff.mpr c6
     subst c6
     have H1 : (some (0, 1)) = some (r1, r2) := by rw [if_neg (show ¬ (false = true) by decide)] at H; exact H
     clear H
     have H := H1
     clear H1
     simp only [Option.some.injEq, Prod.mk.injEq] at H
     obtain ⟨rfl, rfl⟩ := H
     go_enter Try.func43, Try.ntmps43
     go_wp2_with (first | ((with_reducible refine gate_dst (N := 2) rfl ?_); refine box_event ?hg (N := 2) ?hd (cs := #[.int .i64 a0_0, .int .i64 a0_1, .int .i64 a0_2]) (t := 55) ?hr ?_; (case hd => rfl); (case hg => rfl); (case hr => first | (go_simp; done) | (go_simp; rfl)); intro gb144 hg w13 hbox hb; have BK144 := Aside0.mk (hbox); have GW144 := Aside0.mk ((by rw [hg]; exact (below_size (by repeat (first | (with_reducible first | exact HB.out | apply below_alloc | apply pw_below_drewN | apply below_drew1) | exact HB.out))) : w.heap.size ≤ gb144)); have GE144 := Aside0.mk ((by rw [hg]; exact (below_size (by repeat (first | (with_reducible first | exact HB.out | apply below_alloc | apply pw_below_drewN | apply below_drew1) | exact HB.out))) : w.heap.size ≤ gb144)); replace HB := Aside0.mk (below_step (by repeat (first | (with_reducible first | exact HB.out | apply below_alloc | apply pw_below_drewN | apply below_drew1) | exact HB.out)) hb); clear hb hbox hg; have hcz14_0 : w13.cell? ⟨gb144, 0, none⟩ = some (.int .i64 a0_0) := (blk_cell BK144.out 0).trans rfl; have hcz14_1 : w13.cell? ⟨gb144, 1, none⟩ = some (.int .i64 a0_1) := (blk_cell BK144.out 1).trans rfl; have hcz14_2 : w13.cell? ⟨gb144, 2, none⟩ = some (.int .i64 a0_2) := (blk_cell BK144.out 2).trans rfl; have hfz14_0 := blk_frozen BK144.out 0; have hfz14_1 := blk_frozen BK144.out 1; have hfz14_2 := blk_frozen BK144.out 2) | ((with_reducible refine gate_callee (f := 73) rfl ?_); refine goesL_ (some 7) rfl rfl Try.func73 (by kernel_rfl) rfl #[.agg #[.int .i64 a0_0, .int .i64 a0_1, .int .i64 a0_2]] rfl (by (try simp only [List.map_toArray, List.map_cons, List.map_nil]); first | done | rfl | (simp only [List.length_drop, List.length_take]; rfl)) ?_; (with_reducible refine (quot_Valid.calls a0_0 a0_1 a0_2 true _ A3.out).mono ?_); rintro e w15 ⟨rfl, hb⟩; refine ⟨_, rfl, ?_⟩; replace BK144 := Aside0.mk (blk_below (g := gb144) (o := .cells #[.int .i64 a0_0, .int .i64 a0_1, .int .i64 a0_2] 55 (0, 0)) (by (with_reducible repeat (first | refine blk_drewN ?_ _ | refine blk_drew ?_ | refine blk_alloc ?_ _)); exact BK144.out) hb); replace HB := Aside0.mk (below_step (by repeat (first | (with_reducible first | exact HB.out | apply below_alloc | apply pw_below_drewN | apply below_drew1 | refine below_set ?_ GE144.out) | exact HB.out)) hb); (try clear hb); (try clear hb2); (try clear hk); (try clear hi)) | (go_at_call 74; (with_reducible refine (quot_isPlace.calls a1 false _ A5.out).mono ?_); rintro e w' ⟨rfl, ⟨nd, rfl⟩⟩))
     go_ret2
     exact ⟨by first | rfl | (simp [errW_none, errW_some] <;> rfl) | (simp [*, errW_none, errW_some] <;> rfl), by repeat (first | (with_reducible first | exact HB.out | apply below_alloc | apply pw_below_drewN | apply below_drew1 | refine below_set ?_ GE144.out) | exact HB.out)⟩
 · replace c4 := Bool.eq_false_iff.mpr c4
   subst c4
   have H1 : (some (0, 1)) = some (r1, r2) := by rw [if_neg (show ¬ (false = true) by decide)] at H; exact H
   clear H
   have H := H1
   clear H1
   simp only [Option.some.injEq, Prod.mk.injEq] at H
   obtain ⟨rfl, rfl⟩ := H
   go_enter Try.func43, Try.ntmps43
   go_wp2_with (first | ((with_reducible refine gate_dst (N := 2) rfl ?_); refine box_event ?hg (N := 2) ?hd (cs := #[.int .i64 a0_0, .int .i64 a0_1, .int .i64 a0_2]) (t := 55) ?hr ?_; (case hd => rfl); (case hg => rfl); (case hr => first | (go_simp; done) | (go_simp; rfl)); intro gb144 hg w16 hbox hb; have BK144 := Aside0.mk (hbox); have GW144 := Aside0.mk ((by rw [hg]; exact (below_size (by repeat (first | (with_reducible first | exact HB.out | apply below_alloc | apply pw_below_drewN | apply below_drew1) | exact HB.out))) : w.heap.size ≤ gb144)); have GE144 := Aside0.mk ((by rw [hg]; exact (below_size (by repeat (first | (with_reducible first | exact HB.out | apply below_alloc | apply pw_below_drewN | apply below_drew1) | exact HB.out))) : w.heap.size ≤ gb144)); replace HB := Aside0.mk (below_step (by repeat (first | (with_reducible first | exact HB.out | apply below_alloc | apply pw_below_drewN | apply below_drew1) | exact HB.out)) hb); clear hb hbox hg; have hcz17_0 : w16.cell? ⟨gb144, 0, none⟩ = some (.int .i64 a0_0) := (blk_cell BK144.out 0).trans rfl; have hcz17_1 : w16.cell? ⟨gb144, 1, none⟩ = some (.int .i64 a0_1) := (blk_cell BK144.out 1).trans rfl; have hcz17_2 : w16.cell? ⟨gb144, 2, none⟩ = some (.int .i64 a0_2) := (blk_cell BK144.out 2).trans rfl; have hfz17_0 := blk_frozen BK144.out 0; have hfz17_1 := blk_frozen BK144.out 1; have hfz17_2 := blk_frozen BK144.out 2) | ((with_reducible refine gate_callee (f := 73) rfl ?_); refine goesL_ (some 7) rfl rfl Try.func73 (by kernel_rfl) rfl #[.agg #[.int .i64 a0_0, .int .i64 a0_1, .int .i64 a0_2]] rfl (by (try simp only [List.map_toArray, List.map_cons, List.map_nil]); first | done | rfl | (simp only [List.length_drop, List.length_take]; rfl)) ?_; (with_reducible refine (quot_Valid.calls a0_0 a0_1 a0_2 false _ A3.out).mono ?_); rintro e w18 ⟨rfl, hb⟩; refine ⟨_, rfl, ?_⟩; replace BK144 := Aside0.mk (blk_below (g := gb144) (o := .cells #[.int .i64 a0_0, .int .i64 a0_1, .int .i64 a0_2] 55 (0, 0)) (by (with_reducible repeat (first | refine blk_drewN ?_ _ | refine blk_drew ?_ | refine blk_alloc ?_ _)); exact BK144.out) hb); replace HB := Aside0.mk (below_step (by repeat (first | (with_reducible first | exact HB.out | apply below_alloc | apply pw_below_drewN | apply below_drew1 | refine below_set ?_ GE144.out) | exact HB.out)) hb); (try clear hb); (try clear hb2); (try clear hk); (try clear hi)))
   go_ret2
   exact ⟨by first | rfl | (simp [errW_none, errW_some] <;> rfl) | (simp [*, errW_none, errW_some] <;> rfl), by repeat (first | (with_reducible first | exact HB.out | apply below_alloc | apply pw_below_drewN | apply below_drew1 | refine below_set ?_ GE144.out) | exact HB.out)⟩
end
section
set_option maxHeartbeats 8000000 in
set_option maxRecDepth 100000 in
open Go.Proofs.Ytdigjjncoeaiiaa.Plain Go.Proofs.YtdigjjncoeaiiaaGlib in
theorem vals1_calls {base bx g1 : Nat} {A0 : Option Addr} {c0 : Nat} {l0 : List S57} {w : World}
  (hgd : GoodP l0) (hc0 : l0.length ≤ c0)
  (hbw : base ≤ w.heap.size) (hR0 : ∀ B, Below base w B → Kd.C k57 B A0 l0.length l0)
  (hcap : w.heap[g1]? = some (.cells #[.slice A0 l0.length c0] 38 (0, 0))) (hb1 : g1 ≠ bx) (hbx : bx < w.heap.size)
  (l : Nat) (J : List Int → World → Prop) (W : World) (hl : w.heap.size ≤ l) (hlW : l < W.heap.size) (hs : Stp (fun _ => False) 57 base w W)
  (hJ : ∀ pre A B, J pre A → Stp (fun _ => False) 57 base A B → J pre B)
  (hY : ∀ pre x A, J pre A → pre.length < (valsC l0).length → YieldAt Fence.wide 0 Try.prog l #[.int .i64 x] A fun e B => e = .returned (.bool true) ∧ J (pre ++ [x]) B ∧ Stp (fun k => k = bx ∨ k = l) 3 base A B)
  (hJ0 : J [] W) :
  CallsIn Fence.wide 0 Try.prog 86 (#[.func (.yield l) #[] #[]] ++ #[.pointer (some ⟨g1, 0, none⟩)]) W fun e B => (∃ v, e = .returned v) ∧ ∃ xs : List Int, xs = valsC l0 ∧ J xs B := by
 have HJ := Aside0.mk hJ
 have HY := Aside0.mk hY
 have HR0 := Aside0.mk hR0
 have HG := Aside0.mk hgd
 have HC := Aside0.mk (hs.same _ _ hcap (.inr ⟨id, fun cs fr e => by injection e with _ e _; cases e⟩))
 have HB := Aside0.mk (hs.below hbw)
 have HJ0 := Aside0.mk hJ0
 have hg1 := (Array.getElem?_eq_some_iff.1 hcap).1
 have hWs := hs.size
 clear hJ hY hR0 hcap hJ0 hs hgd
 have x1 : W.cell? ⟨g1, 0, none⟩ = some (.slice A0 l0.length c0) := (blk_cell HC.out 0).trans rfl
 have hlm : (l0.length : Int) ≤ 9223372036854775807 := by have := Kd.C_max (HR0.out W HB.out); omega
 refine callsIn_wide.2 (calls_of_wp Try.func86 rfl ?_)
 simp only [Try.ntmps86, List.size_toArray, List.length_cons, List.length_nil, Nat.reduceAdd, Nat.reduceSub, Array.replicate_succ, Array.replicate_zero, List.push_toArray, List.append_toArray, List.nil_append, List.cons_append]
 go_wp2
 refine (wpIn_wide (n := 0)).1 ?_
 gi_loopw [10] (fun v wr => ∃ (i : Int), 0 ≤ i ∧ i ≤ l0.length ∧ v = .int .i64 i ∧ Aside0 (J (valsC (l0.take i.toNat)) wr) ∧ Aside0 (Below base w wr) ∧ Aside0 (W.heap.size ≤ wr.heap.size)) (fun v _ => l0.length - (intOf v).toNat)
 case atStart => exact ⟨0, by omega, by omega, rfl, HJ0, HB, ⟨Nat.le_refl _⟩⟩
 case round =>
  clear HJ0 HC x1
  obtain ⟨i, hi0, hi1, rfl, HJi, HBi, HSi⟩ := hrel
  by_cases hlt : i < (l0.length : Int)
  · have d0 : decide (i < (l0.length : Int)) = true := decide_eq_true hlt
    obtain ⟨ad, rfl, y0, y1, y2, y3, y4⟩ := at_T57 (HR0.out wr HBi.out) i hi0 hlt
    obtain ⟨⟨q1, q2, q3, q4⟩, q5, q6, q7⟩ := good_at HG.out hi0 hlt
    have HT := Aside0.mk (vals_take_next l0 hi0 hlt)
    have HL := Aside0.mk (fun (n : Nat) (hn : n < ((rd_T57 l0 i).f1 - (rd_T57 l0 i).f0).toNat) => vals_room l0 hi0 hlt hn)
    have HQ := Aside0.mk (fun (m : Int) (h0 : 0 ≤ m) (h1 : m ≤ 4000) W => quot_At.calls _ _ _ m _ _ W (quotAt_of (q := (rd_T57 l0 i).f2) q1 q2 q3 q4 h0 h1))
    have HVN := Aside0.mk (fun (n : Nat) (hn : n < ((rd_T57 l0 i).f1 - (rd_T57 l0 i).f0).toNat) => valsQ_next (rd_T57 l0 i) hn)
    have HVA := Aside0.mk (valsQ_all (rd_T57 l0 i))
    generalize rd_T57 l0 i = p at *
    obtain ⟨pf, pu, qa, qb, qd⟩ := p
    dsimp only at *
    have wd : wrap64 (pu - pf) = pu - pf := wrap64_id (by omega) (by omega)
    have wi : wrap64 (i + 1) = i + 1 := wrap64_id (by omega) (by omega)
    have HP := Aside0.mk (blk_new wr (.cells #[.int .i64 pf, .int .i64 pu, .int .i64 qa, .int .i64 qb, .int .i64 qd] 57))
    have HJ2 := Aside0.mk (HJ.out _ _ _ HJi.out (Stp.of_below (below_alloc (Below.refl wr.heap.size wr) (.cells #[.int .i64 pf, .int .i64 pu, .int .i64 qa, .int .i64 qb, .int .i64 qd] 57))))
    have HB2 := Aside0.mk (HBi.out.alloc (by have := HBi.out.size; omega) (.cells #[.int .i64 pf, .int .i64 pu, .int .i64 qa, .int .i64 qb, .int .i64 qd] 57))
    have HS2 := Aside0.mk (show wr.heap.size < (wr.alloc (.cells #[.int .i64 pf, .int .i64 pu, .int .i64 qa, .int .i64 qb, .int .i64 qd] 57)).heap.size by simp)
    have hgl : g1 ≠ wr.heap.size ∧ bx ≠ wr.heap.size ∧ l ≠ wr.heap.size := by have := HSi.out; omega
    obtain ⟨G, hG⟩ : ∃ G, wr.heap.size = G := ⟨_, rfl⟩
    obtain ⟨cnt, hcnt⟩ : ∃ c : Nat, c = (pu - pf).toNat := ⟨_, rfl⟩
    rw [← hcnt] at HL HVN
    have HCN := Aside0.mk (show (cnt : Int) = pu - pf by omega)
    have hc4 : cnt ≤ 4001 := by omega
    rw [hG] at HP HS2 hgl
    gi_wp2
    generalize wr.alloc (.cells #[.int .i64 pf, .int .i64 pu, .int .i64 qa, .int .i64 qb, .int .i64 qd] 57) = W1 at *
    gi_loopw [19] (fun v19 wr => ∃ n : Nat, n ≤ cnt ∧ v19 = .int .i64 n ∧ Aside0 (J (valsC (l0.take i.toNat) ++ (valsQ ⟨pf, pu, ⟨qa, qb, qd⟩⟩).take n) wr) ∧ Aside0 (Below base w wr) ∧ Aside0 (G < wr.heap.size) ∧ Aside0 (wr.heap[G]? = some (.cells #[.int .i64 pf, .int .i64 pu, .int .i64 qa, .int .i64 qb, .int .i64 qd] 57))) (fun v19 _ => cnt - (intOf v19).toNat)
    case atStart => exact ⟨0, by omega, rfl, ⟨by rw [List.take_zero, List.append_nil]; exact HJ2.out⟩, HB2, HS2, HP⟩
    case round =>
     clear HJ2 HB2 HS2 HP
     obtain ⟨n, hn, rfl, HJn, HBn, HSn, HPn⟩ := hrel
     by_cases hnl : n < cnt
     · have d1 : decide ((n : Int) < pu - pf) = true := decide_eq_true (by have := HCN.out; omega)
       have c2 := (blk_cell HPn.out 2).trans rfl
       have c3 := (blk_cell HPn.out 3).trans rfl
       have c4 := (blk_cell HPn.out 4).trans rfl
       have HQn := Aside0.mk (fun W => HQ.out (n : Int) (by omega) (by omega) W)
       have HLn := Aside0.mk (HL.out n hnl)
       have HVn := Aside0.mk (HVN.out n hnl)
       gi_wp2
       refine ⟨trivial, rfl, (callsIn_wide.2 (HQn.out _)).mono ?_⟩
       rintro e w8 ⟨rfl, hb⟩
       obtain ⟨fn, tmps, assign, body, hy, hR⟩ := HY.out _ (atQ ⟨qa, qb, qd⟩ (n : Int)) w8 (HJ.out _ _ _ HJn.out (Stp.of_below hb)) HLn.out
       gi_wp2
       refine ⟨rfl, hR.mono ?_⟩
       rintro e B ⟨rfl, hJ3, hS3⟩
       have HW := Aside0.mk (show wrap64 ((n : Int) + 1) = ((n + 1 : Nat) : Int) from wrap_next (by omega))
       gi_wp2
       go_roundw
       case rel => exact ⟨n + 1, by omega, by go_num, ⟨by rw [List.append_assoc, HVn.out] at hJ3; exact hJ3⟩, ⟨(HBn.out.trans (hb.mono (by have := HBn.out.size; omega))).trans (hS3.below (by have := HBn.out.size; have := hb.size; omega))⟩, ⟨Nat.lt_of_lt_of_le HSn.out (Nat.le_trans hb.size hS3.size)⟩, ⟨hS3.same _ _ (blk_below HPn.out hb) (.inr ⟨fun h => h.elim (fun e => hgl.2.1 e.symm) (fun e => hgl.2.2 e.symm), fun cs fr e => by injection e with _ e _; cases e⟩)⟩⟩
       case measure => simp [intOf]; omega
     · have d1 : decide ((n : Int) < pu - pf) = false := decide_eq_false (by have := HCN.out; omega)
       have e1 : (valsQ ⟨pf, pu, ⟨qa, qb, qd⟩⟩).take n = valsQ ⟨pf, pu, ⟨qa, qb, qd⟩⟩ := by rw [show n = (pu - pf).toNat by omega]; exact HVA.out
       have HJe := HJn.out
       rw [e1, ← HT.out] at HJe
       have HJf := Aside0.mk HJe
       clear HJe e1 HJn HVN HVA HT HL HQ
       gi_wp2
       go_roundw
       case rel => exact ⟨i + 1, by omega, by omega, rfl, HJf, HBn, ⟨by have := HSn.out; have := HSi.out; omega⟩⟩
       case measure => simp [intOf]; omega
  · have d0 : decide (i < (l0.length : Int)) = false := decide_eq_false hlt
    have HJe := HJi.out
    rw [show i.toNat = l0.length by omega, List.take_length] at HJe
    gi_wp2
    refine bodyPost_end (results_none rfl _ _ _) rfl ?_
    exact ⟨⟨_, rfl⟩, HJe⟩
end
section
attribute [local go_sem] Oper.semAt_some
set_option maxHeartbeats 8000000 in
set_option maxRecDepth 100000 in
open Go.Proofs.Ytdigjjncoeaiiaa.Plain Go.Proofs.YtdigjjncoeaiiaaGlib in
theorem values_calls (A : Option Addr) (n c : Nat) (w : World) :
  Calls Try.prog 71 #[.slice A n c] w fun e w' => e = .returned (.func (.func 86) #[] #[.pointer (some ⟨w.heap.size, 0, none⟩)]) ∧ w'.heap[w.heap.size]? = some (.cells #[.slice A n c] 38 (0, 0)) ∧ Below w.heap.size w w' ∧ w'.heap.size = w.heap.size + 1 := by
 have hmf : ∀ (fn : Fn) (first cap : Array Value) (w : World), (Instr.makeFunc fn first cap).run Try.prog w = .ok (.func fn first cap) w := fun _ _ _ _ => rfl
 go_enter Try.func71, Try.ntmps71
 go_wp2
 go_ret
 exact ⟨rfl, blk_new w _, below_alloc (Below.refl _ _) _, by simp⟩
set_option maxHeartbeats 8000000 in
set_option maxRecDepth 100000 in
open Go.Proofs.Ytdigjjncoeaiiaa.Plain Go.Proofs.YtdigjjncoeaiiaaGlib in
theorem appendSeq_calls {g1 : Nat} {A0 : Option Addr} {c0 : Nat} {l0 : List S57} {w : World} (hgd : GoodP l0) (hc0 : l0.length ≤ c0) (hR0 : Kd.C k57 w A0 l0.length l0) (hcap : w.heap[g1]? = some (.cells #[.slice A0 l0.length c0] 38 (0, 0))) (hlen : (valsC l0).length ≤ 4000) :
  Calls Try.prog 81 #[.slice none 0 0, .func (.func 86) #[] #[.pointer (some ⟨g1, 0, none⟩)]] w fun e w' => ∃ v, e = .returned v ∧ Kd.R (Kd.int .i64) 3 w' w.heap.size (fun _ => True) v (valsC l0) ∧ Below w.heap.size w w' := by
 have HG := Aside0.mk hgd
 have HR := Aside0.mk hR0
 have hg1 := (Array.getElem?_eq_some_iff.1 hcap).1
 have HC := Aside0.mk (blk_alloc hcap (.cells #[.slice none 0 0] 33))
 have HX := Aside0.mk (blk_new w (.cells #[.slice none 0 0] 33))
 have HB := Aside0.mk (below_alloc (Below.refl w.heap.size w) (.cells #[.slice none 0 0] 33))
 have HS := Aside0.mk (show w.heap.size < (w.alloc (.cells #[.slice none 0 0] 33)).heap.size by simp)
 clear hgd hR0 hcap
 refine (callsIn_wide (n := 0)).1 (callsIn_of_wp_marks Try.func81 rfl trivial ?_ rfl)
 simp only [Try.ntmps81, List.size_toArray, List.length_cons, List.length_nil, Nat.reduceAdd, Nat.reduceSub, Array.replicate_succ, Array.replicate_zero, List.push_toArray, List.append_toArray, List.nil_append, List.cons_append]
 refine wpIn_wide.2 ?_
 go_wp2_with fail
 generalize w.alloc (.cells #[.slice none 0 0] 33) = W1 at *
 refine (wpIn_wide (n := 0)).1 ?_
 gi_wp2
 refine range_run (α := Int) (gf := 86) (lb := #[.pointer (some ⟨g1, 0, none⟩)]) ?hg enters86 (encs := fun x => #[.int .i64 x]) (Px := fun pre _ _ => pre.length < (valsC l0).length) (S := fun xs => xs = valsC l0) (tb := 57) (te := 3) (base := w.heap.size) (bx := w.heap.size) ?hbw ?hbx (fun _ => rfl) ?hseq (AppI w w.heap.size) ?hI ?hIl ?h0 ?hround ?hdone
 case hg => rfl
 case hbw => exact HB.out.size
 case hbx => exact HS.out
 case hseq =>
  intro l J W hl hlW hs hJ hY hJ0
  exact vals1_calls HG.out hc0 (base := w.heap.size) (bx := w.heap.size) HB.out.size (fun B hB => Kd.C_below HR.out (HB.out.trans hB)) HC.out (by omega) HS.out l J W hl hlW hs hJ hY hJ0
 case hI =>
  rintro pre A B ⟨v, h1, h2, h3⟩ hs
  exact ⟨v, hs.same _ _ h1 (.inr ⟨id, fun cs fr e => by injection e with _ e _; cases e⟩), R_stp h2 hs (fun _ h => h.elim) (by decide), h3.trans (hs.below h3.size)⟩
 case hIl =>
  rintro pre A B k ⟨v, h1, h2, h3⟩ hk ho hg
  have := HS.out
  exact ⟨v, blk_grown h1 hg (fun e => by have := Option.some.inj e; omega), R_loop h2 hg ho, h3.grown hg h3.size (fun r e => by have := Option.some.inj e; omega)⟩
 case h0 => exact ⟨.slice none 0 0, HX.out, Kd.R_nil _ _ _ _ _, HB.out⟩
 case hround =>
  rintro l pre x A ⟨v, h1, h2, h3⟩ hx hl
  have HA := Aside0.mk h1
  have HZ := Aside0.mk h2
  have HBA := Aside0.mk h3
  have HLN := Aside0.mk hx
  clear h1 h2 h3 hx
  gi_wp2
  refine ⟨Stp.refl _, ?_⟩
  rintro B' hg ⟨ob, hob, hoc⟩
  have hsz := HS.out
  have HA' := Aside0.mk (blk_grown HA.out hg (fun e => by have := Option.some.inj e; omega))
  have HZ' := Aside0.mk (R_loop HZ.out hg ⟨ob, hob, hoc⟩)
  have HB' := Aside0.mk (HBA.out.grown hg HBA.out.size (fun r e => by have := Option.some.inj e; omega))
  clear hob hoc hg HA HZ HBA
  have b0 := (blk_cell HA'.out 0).trans rfl
  have bf := blk_frozen HA'.out 0
  have HZL := Aside0.mk (show (pre.length + 1) * 8 ≤ 140737488355328 by have := HLN.out; omega)
  have hbs := HB'.out.size
  have HZa := Aside0.mk (Kd.R_alloc HZ'.out (.cells #[.int .i64 x] 3))
  have HAa := Aside0.mk (blk_alloc HA'.out (.cells #[.int .i64 x] 3))
  have NA := Aside0.mk (Kd.R_ne HZ'.out HA'.out (by decide))
  have N3 := Aside0.mk (R_own HZ'.out)
  gi_wp2_with (gi_at_builtin; refine R_appendIn (Kd.int .i64) (w0 := w) (W := B') w.heap.size rfl (.tmp 8) (.tmp 10) 33 3 (.int .i64 0) 8 rfl Try.underlying33 info3 rfl (by decide) (by omega) v pre x [.int .i64 x] (fun _ => True) (fun _ => False) rfl rfl rfl (fun _ hk => hk.elim) (fun _ _ => trivial) HZ'.out HB'.out hbs HZL.out ?_; intro v1 w1 ho hb hg hat; obtain ⟨y, hy⟩ : ∃ y, pre ++ [x] = y := ⟨_, rfl⟩; rw [hy] at ho; have HY := Aside0.mk hy; clear hy; obtain ⟨Av, cv, ev⟩ := Kd.R_slice ho; subst ev; have HA1 := Aside0.mk (blk_grown HA'.out hg NA.out); have HZ1 := Aside0.mk ho; have HB1 := Aside0.mk hb; have HS1 := Aside0.mk (Stp.of_grownBy (X := fun k => k = w.heap.size) (t := 3) (base := w.heap.size) hg N3.out); clear ho hb hg hat; have b1 := (blk_cell HA1.out 0).trans rfl; have bf1 := blk_frozen HA1.out 0)
  exact ⟨HS1.out.trans (Stp.setX (X := fun k => k = w.heap.size) (b := w.heap.size) rfl (Nat.le_refl _) 0 _), _, blk_set HA1.out 0 _, by rw [HY.out]; exact Kd.R_set HZ1.out HA1.out (by decide) 0 _, HB1.out.setCell (p := ⟨w.heap.size, 0, none⟩) (Nat.le_refl _) _⟩
 case hdone =>
  rintro D xs W hD hS ⟨v, h1, h2, h3⟩ hDd
  subst hS
  have b0 := (blk_cell h1 0).trans rfl
  have HD := Aside0.mk hDd
  have H2 := Aside0.mk h2
  have H3 := Aside0.mk h3
  clear h1 h2 h3 hDd
  go_wp2
  refine ⟨by simp, .inl ⟨_, _, rfl, run_takeDeferred HD.out, ?_⟩⟩
  refine ⟨v, by simp [results, go_sem], ?_⟩
  exact ⟨_, rfl, R_loop H2.out (grownBy_putObj' _ _ _) ⟨_, HD.out, rfl⟩, H3.out.grown (grownBy_putObj' _ _ _) H3.out.size (fun r e => by have := Option.some.inj e; have := HS.out; have := HB.out.size; omega)⟩
set_option maxHeartbeats 8000000 in
set_option maxRecDepth 100000 in
open Go.Proofs.Ytdigjjncoeaiiaa.Plain Go.Proofs.YtdigjjncoeaiiaaGlib in
theorem collect_vals {g1 : Nat} {A0 : Option Addr} {c0 : Nat} {l0 : List S57} {w : World} (hgd : GoodP l0) (hc0 : l0.length ≤ c0) (hR0 : Kd.C k57 w A0 l0.length l0) (hcap : w.heap[g1]? = some (.cells #[.slice A0 l0.length c0] 38 (0, 0))) (hlen : (valsC l0).length ≤ 4000) :
  Calls Try.prog 63 #[.func (.func 86) #[] #[.pointer (some ⟨g1, 0, none⟩)]] w fun e w' => ∃ v, e = .returned v ∧ Kd.R (Kd.int .i64) 3 w' w.heap.size (fun _ => True) v (valsC l0) ∧ Below w.heap.size w w' := by
 have AC := Aside0.mk (appendSeq_calls hgd hc0 hR0 hcap hlen)
 clear hgd hR0 hcap
 go_enter Try.func63, Try.ntmps63
 go_wp2_with (go_at_call 81; with_reducible refine AC.out.mono ?_; rintro e w2 ⟨v, rfl, ho, hb⟩)
 go_ret
 exact ⟨v, rfl, ho, hb⟩
end
end Go.Proofs.Ytdigjjncoeaiiaa.PAll
