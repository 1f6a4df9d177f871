/- Printed by a program of this session (wip/gprint.py) over the translation, cut to what is named (wip/dcut.py). Not trusted: Lean checks it. -/
import Derived.Test.YtdigjjncoeaiiaaPAlld0
import Derived.Test.YtdigjjncoeaiiaaPAllw15
import Derived.Test.YtdigjjncoeaiiaaPAllw21
import Derived.Test.YtdigjjncoeaiiaaPAllw29
import Derived.Test.YtdigjjncoeaiiaaPAllw33
import Derived.Test.YtdigjjncoeaiiaaPAllw36
import Derived.Test.YtdigjjncoeaiiaaPAllw39
import Derived.Test.YtdigjjncoeaiiaaPAllw43
namespace Go.Proofs.Ytdigjjncoeaiiaa.PAll
open Go.RowKit Go.Proofs.YtdigjjncoeaiiaaW.PrintWords Go.Proofs.YtdigjjncoeaiiaaW.PrintLast Go.Proofs.YtdigjjncoeaiiaaW.PrintMore
attribute [local go_sem] max2_int min2_int max_two min_two max_three min_three max_four min_four -- for this text's walks alone
set_option linter.unusedVariables false
set_option linter.unusedSimpArgs false
set_option maxHeartbeats 8000000 in
set_option maxRecDepth 100000 in
theorem formelaw14_ValueMatchesReference.calls (k : Nat) (a0_0 : Int) (a0_1 : Int) (A0_2 : Option Addr) (c0_2 : Nat) (l0_2 : List (S24)) (a1 : Int) (a2 : Int) (a3_0 : Int) (a3_1 : Int) (a3_2 : Int) (a3_3 : Int) (a3_4 : Int) (a3_5 : Int) (a3_6 : Int) (a3_7 : Int) (a4_0 : Int) (a4_1 : Int) (r : Bool) (w : World) (hr0_2 : Kd.C k24 w A0_2 l0_2.length l0_2) (hc0_2 : l0_2.length ≤ c0_2) (h : formelaw14_ValueMatchesReference.f k a0_0 a0_1 l0_2 a1 a2 a3_0 a3_1 a3_2 a3_3 a3_4 a3_5 a3_6 a3_7 a4_0 a4_1 = some r) :
  Calls Try.prog 3 #[.agg #[.int .i64 a0_0, .int .i64 a0_1, .slice A0_2 l0_2.length c0_2], .int .i64 a1, .int .i64 a2, .agg #[.int .i64 a3_0, .int .i64 a3_1, .int .i64 a3_2, .int .i64 a3_3, .int .i64 a3_4, .int .i64 a3_5, .int .i64 a3_6, .int .i64 a3_7], .agg #[.int .i64 a4_0, .int .i64 a4_1]] w fun e w' => e = .returned (.bool r) ∧ Below w.heap.size w w' := by
 have hu24 := Try.underlying24
 have hu25 := Try.underlying25
 have hu27 := Try.underlying27
 have HR0_2 := Aside0.mk hr0_2
 have HC0_2 := Aside0.mk hc0_2
 clear hr0_2 hc0_2
 have HB := Aside0.mk (Below.refl w.heap.size w)
 have H : ((formelaw14_head.f).bind fun t302 => ((value_Eval.f a0_0 a0_1 l0_2 a1 a2 a3_0 a3_1 a3_2 a3_3 a3_4 a3_5 a3_6 a3_7).bind fun bt303 => ((formeref14_Eval.f k a0_0 a0_1 l0_2 a1 a2 a3_0 a3_1 a3_2 a3_3 a3_4 a3_5 a3_6 a3_7).bind fun bt305 => (if t302 = true then ((value_Valid.f a0_0 a0_1 l0_2).bind fun t307 => ((formeref14_Valid.f k a0_0 a0_1 l0_2).bind fun t308 => (if (t307 == t308) = true then (if bt303.1 = bt305.1 then (formelaw14_ValueMatchesReference.j0 k a2 (bt303.2 == bt305.2) a0_0 a0_1 l0_2 a3_0 a3_1 a3_2 a3_3 a3_4 a3_5 a3_6 a3_7 a4_0 a4_1) else (formelaw14_ValueMatchesReference.j0 k a2 false a0_0 a0_1 l0_2 a3_0 a3_1 a3_2 a3_3 a3_4 a3_5 a3_6 a3_7 a4_0 a4_1)) else (formelaw14_ValueMatchesReference.j0 k a2 false a0_0 a0_1 l0_2 a3_0 a3_1 a3_2 a3_3 a3_4 a3_5 a3_6 a3_7 a4_0 a4_1)))) else (formelaw14_ValueMatchesReference.j0 k a2 false a0_0 a0_1 l0_2 a3_0 a3_1 a3_2 a3_3 a3_4 a3_5 a3_6 a3_7 a4_0 a4_1))))) = some r := h
 clear h
 replace H := Option.bind_eq_some_iff.mp H
 obtain ⟨t302, A60, H⟩ := H
 replace H : ((value_Eval.f a0_0 a0_1 l0_2 a1 a2 a3_0 a3_1 a3_2 a3_3 a3_4 a3_5 a3_6 a3_7).bind fun bt303 => ((formeref14_Eval.f k a0_0 a0_1 l0_2 a1 a2 a3_0 a3_1 a3_2 a3_3 a3_4 a3_5 a3_6 a3_7).bind fun bt305 => (if t302 = true then ((value_Valid.f a0_0 a0_1 l0_2).bind fun t307 => ((formeref14_Valid.f k a0_0 a0_1 l0_2).bind fun t308 => (if (t307 == t308) = true then (if bt303.1 = bt305.1 then (formelaw14_ValueMatchesReference.j0 k a2 (bt303.2 == bt305.2) a0_0 a0_1 l0_2 a3_0 a3_1 a3_2 a3_3 a3_4 a3_5 a3_6 a3_7 a4_0 a4_1) else (formelaw14_ValueMatchesReference.j0 k a2 false a0_0 a0_1 l0_2 a3_0 a3_1 a3_2 a3_3 a3_4 a3_5 a3_6 a3_7 a4_0 a4_1)) else (formelaw14_ValueMatchesReference.j0 k a2 false a0_0 a0_1 l0_2 a3_0 a3_1 a3_2 a3_3 a3_4 a3_5 a3_6 a3_7 a4_0 a4_1)))) else (formelaw14_ValueMatchesReference.j0 k a2 false a0_0 a0_1 l0_2 a3_0 a3_1 a3_2 a3_3 a3_4 a3_5 a3_6 a3_7 a4_0 a4_1)))) = some r := H
 have A6 := Aside0.mk A60
 clear A60
 replace H := Option.bind_eq_some_iff.mp H
 obtain ⟨⟨t303, t304⟩, A70, H⟩ := H
 replace H : ((formeref14_Eval.f k a0_0 a0_1 l0_2 a1 a2 a3_0 a3_1 a3_2 a3_3 a3_4 a3_5 a3_6 a3_7).bind fun bt305 => (if t302 = true then ((value_Valid.f a0_0 a0_1 l0_2).bind fun t307 => ((formeref14_Valid.f k a0_0 a0_1 l0_2).bind fun t308 => (if (t307 == t308) = true then (if t303 = bt305.1 then (formelaw14_ValueMatchesReference.j0 k a2 (t304 == bt305.2) a0_0 a0_1 l0_2 a3_0 a3_1 a3_2 a3_3 a3_4 a3_5 a3_6 a3_7 a4_0 a4_1) else (formelaw14_ValueMatchesReference.j0 k a2 false a0_0 a0_1 l0_2 a3_0 a3_1 a3_2 a3_3 a3_4 a3_5 a3_6 a3_7 a4_0 a4_1)) else (formelaw14_ValueMatchesReference.j0 k a2 false a0_0 a0_1 l0_2 a3_0 a3_1 a3_2 a3_3 a3_4 a3_5 a3_6 a3_7 a4_0 a4_1)))) else (formelaw14_ValueMatchesReference.j0 k a2 false a0_0 a0_1 l0_2 a3_0 a3_1 a3_2 a3_3 a3_4 a3_5 a3_6 a3_7 a4_0 a4_1))) = some r := H
 have A7 := Aside0.mk A70
 clear A70
 replace H := Option.bind_eq_some_iff.mp H
 obtain ⟨⟨t305, t306⟩, A80, H⟩ := H
 replace H : (if t302 = true then ((value_Valid.f a0_0 a0_1 l0_2).bind fun t307 => ((formeref14_Valid.f k a0_0 a0_1 l0_2).bind fun t308 => (if (t307 == t308) = true then (if t303 = t305 then (formelaw14_ValueMatchesReference.j0 k a2 (t304 == t306) a0_0 a0_1 l0_2 a3_0 a3_1 a3_2 a3_3 a3_4 a3_5 a3_6 a3_7 a4_0 a4_1) else (formelaw14_ValueMatchesReference.j0 k a2 false a0_0 a0_1 l0_2 a3_0 a3_1 a3_2 a3_3 a3_4 a3_5 a3_6 a3_7 a4_0 a4_1)) else (formelaw14_ValueMatchesReference.j0 k a2 false a0_0 a0_1 l0_2 a3_0 a3_1 a3_2 a3_3 a3_4 a3_5 a3_6 a3_7 a4_0 a4_1)))) else (formelaw14_ValueMatchesReference.j0 k a2 false a0_0 a0_1 l0_2 a3_0 a3_1 a3_2 a3_3 a3_4 a3_5 a3_6 a3_7 a4_0 a4_1)) = some r := H
 have A8 := Aside0.mk A80
 clear A80
 have HC9 := Aside0.mk H
 clear H
 go_enter Try.func3, Try.ntmps3
 go_upto_region 4 with (first | ((with_reducible refine gate_dst (N := 5) rfl ?_); refine box_event ?hg (N := 5) ?hd (cs := #[.int .i64 a0_0, .int .i64 a0_1, .slice A0_2 l0_2.length c0_2]) (t := 24) ?hr ?_; (case hd => rfl); (case hg => rfl); (case hr => (go_simp; done)); intro gb299 hg w10 hbox hb; have BK299 := Aside0.mk (hbox); have GW299 := Aside0.mk ((by rw [hg]; exact (below_size HB.out) : w.heap.size ≤ gb299)); have GE299 := Aside0.mk ((by rw [hg]; exact (below_size HB.out) : w.heap.size ≤ gb299)); replace HB := Aside0.mk (below_step HB.out hb); clear hb hbox hg) | ((with_reducible refine gate_dst (N := 8) rfl ?_); refine box_event ?hg (N := 8) ?hd (cs := #[.int .i64 a3_0, .int .i64 a3_1, .int .i64 a3_2, .int .i64 a3_3, .int .i64 a3_4, .int .i64 a3_5, .int .i64 a3_6, .int .i64 a3_7]) (t := 25) ?hr ?_; (case hd => rfl); (case hg => rfl); (case hr => (go_simp; done)); intro gb300 hg w11 hbox hb; have BK300 := Aside0.mk (hbox); have GW300 := Aside0.mk ((by rw [hg]; exact (below_size HB.out) : w.heap.size ≤ gb300)); have GE300 := Aside0.mk ((by rw [hg]; exact (below_size HB.out) : w.heap.size ≤ gb300)); replace HB := Aside0.mk (below_step HB.out hb); have NB299_300 := Aside0.mk ((by rw [hg]; exact Nat.ne_of_lt (blk_lt BK299.out) : gb299 ≠ gb300)); have NB300_299 := Aside0.mk ((by rw [hg]; exact Nat.ne_of_gt (blk_lt BK299.out) : gb300 ≠ gb299)); replace BK299 := Aside0.mk (blk_below BK299.out hb); clear hb hbox hg) | ((with_reducible refine gate_dst (N := 9) rfl ?_); refine box_event ?hg (N := 9) ?hd (cs := #[.int .i64 a4_0, .int .i64 a4_1]) (t := 27) ?hr ?_; (case hd => rfl); (case hg => rfl); (case hr => (go_simp; done)); intro gb301 hg w12 hbox hb; have BK301 := Aside0.mk (hbox); have GW301 := Aside0.mk ((by rw [hg]; exact (below_size HB.out) : w.heap.size ≤ gb301)); have GE301 := Aside0.mk ((by rw [hg]; exact (below_size HB.out) : w.heap.size ≤ gb301)); replace HB := Aside0.mk (below_step HB.out hb); have NB299_301 := Aside0.mk ((by rw [hg]; exact Nat.ne_of_lt (blk_lt BK299.out) : gb299 ≠ gb301)); have NB301_299 := Aside0.mk ((by rw [hg]; exact Nat.ne_of_gt (blk_lt BK299.out) : gb301 ≠ gb299)); replace BK299 := Aside0.mk (blk_below BK299.out hb); have NB300_301 := Aside0.mk ((by rw [hg]; exact Nat.ne_of_lt (blk_lt BK300.out) : gb300 ≠ gb301)); have NB301_300 := Aside0.mk ((by rw [hg]; exact Nat.ne_of_gt (blk_lt BK300.out) : gb301 ≠ gb300)); replace BK300 := Aside0.mk (blk_below BK300.out hb); clear hb hbox hg) | ((with_reducible refine gate_callee (f := 10) rfl ?_); refine goesL_ (some 20) rfl rfl Try.func10 (by kernel_rfl) rfl #[] rfl (by (try simp only [List.map_toArray, List.map_cons, List.map_nil]); done) ?_; (with_reducible refine (formelaw14_head.calls  t302 _ A6.out).mono ?_); rintro e w13 ⟨rfl, hb⟩; refine ⟨_, rfl, ?_⟩; replace BK299 := Aside0.mk (blk_below BK299.out hb); replace BK300 := Aside0.mk (blk_below BK300.out hb); replace BK301 := Aside0.mk (blk_below BK301.out hb); replace HB := Aside0.mk (below_step HB.out hb); (try clear hb); have hnb14 := NB299_300.out; have hnc14 := NB300_299.out; have hnb15 := NB299_301.out; have hnc15 := NB301_299.out; have hcz16_0 : w13.cell? ⟨gb299, 0, none⟩ = some (.int .i64 a0_0) := (blk_cell BK299.out 0).trans rfl; have hcz16_1 : w13.cell? ⟨gb299, 1, none⟩ = some (.int .i64 a0_1) := (blk_cell BK299.out 1).trans rfl; have hcz16_2 : w13.cell? ⟨gb299, 2, none⟩ = some (.slice A0_2 l0_2.length c0_2) := (blk_cell BK299.out 2).trans rfl; have hfz16_0 := blk_frozen BK299.out 0; have hfz16_1 := blk_frozen BK299.out 1; have hfz16_2 := blk_frozen BK299.out 2; have hnb17 := NB300_301.out; have hnc17 := NB301_300.out; have hcz18_0 : w13.cell? ⟨gb300, 0, none⟩ = some (.int .i64 a3_0) := (blk_cell BK300.out 0).trans rfl; have hcz18_1 : w13.cell? ⟨gb300, 1, none⟩ = some (.int .i64 a3_1) := (blk_cell BK300.out 1).trans rfl; have hcz18_2 : w13.cell? ⟨gb300, 2, none⟩ = some (.int .i64 a3_2) := (blk_cell BK300.out 2).trans rfl; have hcz18_3 : w13.cell? ⟨gb300, 3, none⟩ = some (.int .i64 a3_3) := (blk_cell BK300.out 3).trans rfl; have hcz18_4 : w13.cell? ⟨gb300, 4, none⟩ = some (.int .i64 a3_4) := (blk_cell BK300.out 4).trans rfl; have hcz18_5 : w13.cell? ⟨gb300, 5, none⟩ = some (.int .i64 a3_5) := (blk_cell BK300.out 5).trans rfl; have hcz18_6 : w13.cell? ⟨gb300, 6, none⟩ = some (.int .i64 a3_6) := (blk_cell BK300.out 6).trans rfl; have hcz18_7 : w13.cell? ⟨gb300, 7, none⟩ = some (.int .i64 a3_7) := (blk_cell BK300.out 7).trans rfl; have hfz18_0 := blk_frozen BK300.out 0; have hfz18_1 := blk_frozen BK300.out 1; have hfz18_2 := blk_frozen BK300.out 2; have hfz18_3 := blk_frozen BK300.out 3; have hfz18_4 := blk_frozen BK300.out 4; have hfz18_5 := blk_frozen BK300.out 5; have hfz18_6 := blk_frozen BK300.out 6; have hfz18_7 := blk_frozen BK300.out 7) | ((with_reducible refine gate_callee (f := 11) rfl ?_); refine goesL_ (some 26) rfl rfl Try.func11 (by kernel_rfl) rfl #[.agg #[.int .i64 a0_0, .int .i64 a0_1, .slice A0_2 l0_2.length c0_2], .int .i64 a1, .int .i64 a2, .agg #[.int .i64 a3_0, .int .i64 a3_1, .int .i64 a3_2, .int .i64 a3_3, .int .i64 a3_4, .int .i64 a3_5, .int .i64 a3_6, .int .i64 a3_7]] rfl (by (try simp only [List.map_toArray, List.map_cons, List.map_nil]); rfl) ?_; (with_reducible refine (value_Eval.calls a0_0 a0_1 _ _ l0_2 a1 a2 a3_0 a3_1 a3_2 a3_3 a3_4 a3_5 a3_6 a3_7 t303 t304 _ ?side1 ?side2 A7.out).mono ?_); (case side1 => repeat (exact (Kd.C_below HR0_2.out HB.out))); (case side2 => exact HC0_2.out); rintro e w19 ⟨rfl, hb⟩; refine ⟨_, rfl, ?_⟩; replace BK299 := Aside0.mk (blk_below BK299.out hb); replace BK300 := Aside0.mk (blk_below BK300.out hb); replace BK301 := Aside0.mk (blk_below BK301.out hb); replace HB := Aside0.mk (below_step HB.out hb); (try clear hb); have hcz20_0 : w19.cell? ⟨gb299, 0, none⟩ = some (.int .i64 a0_0) := (blk_cell BK299.out 0).trans rfl; have hcz20_1 : w19.cell? ⟨gb299, 1, none⟩ = some (.int .i64 a0_1) := (blk_cell BK299.out 1).trans rfl; have hcz20_2 : w19.cell? ⟨gb299, 2, none⟩ = some (.slice A0_2 l0_2.length c0_2) := (blk_cell BK299.out 2).trans rfl; have hfz20_0 := blk_frozen BK299.out 0; have hfz20_1 := blk_frozen BK299.out 1; have hfz20_2 := blk_frozen BK299.out 2; have hcz21_0 : w19.cell? ⟨gb300, 0, none⟩ = some (.int .i64 a3_0) := (blk_cell BK300.out 0).trans rfl; have hcz21_1 : w19.cell? ⟨gb300, 1, none⟩ = some (.int .i64 a3_1) := (blk_cell BK300.out 1).trans rfl; have hcz21_2 : w19.cell? ⟨gb300, 2, none⟩ = some (.int .i64 a3_2) := (blk_cell BK300.out 2).trans rfl; have hcz21_3 : w19.cell? ⟨gb300, 3, none⟩ = some (.int .i64 a3_3) := (blk_cell BK300.out 3).trans rfl; have hcz21_4 : w19.cell? ⟨gb300, 4, none⟩ = some (.int .i64 a3_4) := (blk_cell BK300.out 4).trans rfl; have hcz21_5 : w19.cell? ⟨gb300, 5, none⟩ = some (.int .i64 a3_5) := (blk_cell BK300.out 5).trans rfl; have hcz21_6 : w19.cell? ⟨gb300, 6, none⟩ = some (.int .i64 a3_6) := (blk_cell BK300.out 6).trans rfl; have hcz21_7 : w19.cell? ⟨gb300, 7, none⟩ = some (.int .i64 a3_7) := (blk_cell BK300.out 7).trans rfl; have hfz21_0 := blk_frozen BK300.out 0; have hfz21_1 := blk_frozen BK300.out 1; have hfz21_2 := blk_frozen BK300.out 2; have hfz21_3 := blk_frozen BK300.out 3; have hfz21_4 := blk_frozen BK300.out 4; have hfz21_5 := blk_frozen BK300.out 5; have hfz21_6 := blk_frozen BK300.out 6; have hfz21_7 := blk_frozen BK300.out 7) | ((with_reducible refine gate_callee (f := 12) rfl ?_); refine goesL_ (some 34) rfl rfl Try.func12 (by kernel_rfl) rfl #[.agg #[.int .i64 a0_0, .int .i64 a0_1, .slice A0_2 l0_2.length c0_2], .int .i64 a1, .int .i64 a2, .agg #[.int .i64 a3_0, .int .i64 a3_1, .int .i64 a3_2, .int .i64 a3_3, .int .i64 a3_4, .int .i64 a3_5, .int .i64 a3_6, .int .i64 a3_7]] rfl (by (try simp only [List.map_toArray, List.map_cons, List.map_nil]); rfl) ?_; (with_reducible refine (formeref14_Eval.calls k a0_0 a0_1 _ _ l0_2 a1 a2 a3_0 a3_1 a3_2 a3_3 a3_4 a3_5 a3_6 a3_7 t305 t306 _ ?side1 ?side2 A8.out).mono ?_); (case side1 => repeat (exact (Kd.C_below HR0_2.out HB.out))); (case side2 => exact HC0_2.out); rintro e w22 ⟨rfl, hb⟩; refine ⟨_, rfl, ?_⟩; replace BK299 := Aside0.mk (blk_below BK299.out hb); replace BK300 := Aside0.mk (blk_below BK300.out hb); replace BK301 := Aside0.mk (blk_below BK301.out hb); replace HB := Aside0.mk (below_step HB.out hb); (try clear hb)))
 (try simp only [Act.put, List.setIfInBounds_toArray, List.set_cons_zero, List.set_cons_succ])
 go_cut [11] (fun v11 wc => ∃ (kq : Nat) (x11_8 : Bool), v11 = .bool x11_8 ∧ Aside0 (formelaw14_ValueMatchesReference.j0 kq a2 x11_8 a0_0 a0_1 l0_2 a3_0 a3_1 a3_2 a3_3 a3_4 a3_5 a3_6 a3_7 a4_0 a4_1 = some r) ∧ Aside0 (kq ≤ k) ∧ Aside0 (wc.heap[gb299]? = some (.cells #[.int .i64 a0_0, .int .i64 a0_1, (.slice A0_2 l0_2.length c0_2)] 24 (0, 0))) ∧ Aside0 (wc.heap[gb300]? = some (.cells #[.int .i64 a3_0, .int .i64 a3_1, .int .i64 a3_2, .int .i64 a3_3, .int .i64 a3_4, .int .i64 a3_5, .int .i64 a3_6, .int .i64 a3_7] 25 (0, 0))) ∧ Aside0 (wc.heap[gb301]? = some (.cells #[.int .i64 a4_0, .int .i64 a4_1] 27 (0, 0))) ∧ Aside0 (Below w.heap.size w wc))
 case first =>
  have H := HC9.out
  clear HC9
  by_cases c23 : t302 = true
  · subst c23
    have H1 : ((value_Valid.f a0_0 a0_1 l0_2).bind fun t307 => ((formeref14_Valid.f k a0_0 a0_1 l0_2).bind fun t308 => (if (t307 == t308) = true then (if t303 = t305 then (formelaw14_ValueMatchesReference.j0 k a2 (t304 == t306) a0_0 a0_1 l0_2 a3_0 a3_1 a3_2 a3_3 a3_4 a3_5 a3_6 a3_7 a4_0 a4_1) else (formelaw14_ValueMatchesReference.j0 k a2 false a0_0 a0_1 l0_2 a3_0 a3_1 a3_2 a3_3 a3_4 a3_5 a3_6 a3_7 a4_0 a4_1)) else (formelaw14_ValueMatchesReference.j0 k a2 false a0_0 a0_1 l0_2 a3_0 a3_1 a3_2 a3_3 a3_4 a3_5 a3_6 a3_7 a4_0 a4_1)))) = some r := by rw [if_pos rfl] at H; exact H
    clear H
    have H := H1
    clear H1
    replace H := Option.bind_eq_some_iff.mp H
    obtain ⟨t307, A240, H⟩ := H
    replace H : ((formeref14_Valid.f k a0_0 a0_1 l0_2).bind fun t308 => (if (t307 == t308) = true then (if t303 = t305 then (formelaw14_ValueMatchesReference.j0 k a2 (t304 == t306) a0_0 a0_1 l0_2 a3_0 a3_1 a3_2 a3_3 a3_4 a3_5 a3_6 a3_7 a4_0 a4_1) else (formelaw14_ValueMatchesReference.j0 k a2 false a0_0 a0_1 l0_2 a3_0 a3_1 a3_2 a3_3 a3_4 a3_5 a3_6 a3_7 a4_0 a4_1)) else (formelaw14_ValueMatchesReference.j0 k a2 false a0_0 a0_1 l0_2 a3_0 a3_1 a3_2 a3_3 a3_4 a3_5 a3_6 a3_7 a4_0 a4_1))) = some r := H
    have A24 := Aside0.mk A240
    clear A240
    replace H := Option.bind_eq_some_iff.mp H
    obtain ⟨t308, A250, H⟩ := H
    replace H : (if (t307 == t308) = true then (if t303 = t305 then (formelaw14_ValueMatchesReference.j0 k a2 (t304 == t306) a0_0 a0_1 l0_2 a3_0 a3_1 a3_2 a3_3 a3_4 a3_5 a3_6 a3_7 a4_0 a4_1) else (formelaw14_ValueMatchesReference.j0 k a2 false a0_0 a0_1 l0_2 a3_0 a3_1 a3_2 a3_3 a3_4 a3_5 a3_6 a3_7 a4_0 a4_1)) else (formelaw14_ValueMatchesReference.j0 k a2 false a0_0 a0_1 l0_2 a3_0 a3_1 a3_2 a3_3 a3_4 a3_5 a3_6 a3_7 a4_0 a4_1)) = some r := H
    have A25 := Aside0.mk A250
    clear A250
    by_cases c26 : (t307 == t308) = true
    · rw [if_pos c26] at H
      have c26b0 : (t307 == t308) = true := c26
      (try (have c26b1 : decide (t307 = t308) = true := by simpa using c26))
      (try (have c26b2 : (t307 == t308) = true := by simpa using c26))
      clear c26
      by_cases c27 : t303 = t305
      · rw [if_pos c27] at H
        have c27b0 : (t303 == t305) = true := beq_iff_eq.mpr c27
        have c27b1 : (t303 != t305) = false := bne_eq_false_iff_eq.mpr c27
        clear c27
        have H' := Aside0.mk H
        clear H
        try go_wp2
        replace BK299 := Aside0.mk (blk_drew BK299.out)
        replace BK300 := Aside0.mk (blk_drew BK300.out)
        replace BK301 := Aside0.mk (blk_drew BK301.out)
        replace HB := Aside0.mk (below_drew1 HB.out)
        refine start_ (n := 19) (S := fun w' => w'.cell? ⟨gb299, 0, none⟩ = some (.int .i64 a0_0) ∧ w'.cell? ⟨gb299, 1, none⟩ = some (.int .i64 a0_1) ∧ w'.cell? ⟨gb299, 2, none⟩ = some (.slice A0_2 l0_2.length c0_2)) (ds := []) #[false, false, false, false, false, false, false, false, false, false, false, false, false, false, false, false, false, false, false] (by kernel_rfl) rfl rfl ⟨(blk_cell BK299.out 0).trans rfl, (blk_cell BK299.out 1).trans rfl, (blk_cell BK299.out 2).trans rfl⟩ (fun hHeld => ?_); refine with_tabW formelaw14_ValueMatchesReference.tab4 formelaw14_ValueMatchesReference.bits4 (fun HT_ HW_ => ?_)
        generalize w22.drew = w28 at BK299 BK300 BK301 HB hHeld ⊢
        refine pure_ (i := 0) (N := some 37) (v := ?_) (a' := ?_) #[true, false, false, false, false, false, false, false, false, false, false, false, false, false, false, false, false, false, false] rfl rfl (any_of HT_.out (by kernel_rfl)) (fun _ _ _ h => h) (Or.inl ⟨by rfl, ?_⟩) ?_ ?_
        rotate_left
        · intro w'
          go_simp
          with_reducible rfl
        rotate_left
        · simp only [Act.put, List.setIfInBounds_toArray, List.set_cons_zero, List.set_cons_succ, i64_w, i32_w]
          rfl
        refine pure_ (i := 1) (N := some 38) (v := ?_) (a' := ?_) #[true, true, false, false, false, false, false, false, false, false, false, false, false, false, false, false, false, false, false] rfl rfl (any_of HT_.out (by kernel_rfl)) (fun _ _ _ h => h) (Or.inl ⟨by rfl, ?_⟩) ?_ ?_
        rotate_left
        · intro w'
          go_simp
          with_reducible rfl
        rotate_left
        · simp only [Act.put, List.setIfInBounds_toArray, List.set_cons_zero, List.set_cons_succ, i64_w, i32_w]
          rfl
        refine take_ (i := 2) (N := some 39) (v := ?_) (a' := ?_) #[true, true, true, false, false, false, false, false, false, false, false, false, false, false, false, false, false, false, false] rfl rfl (take_ofW HT_.out HW_.out (by kernel_rfl)) (fun _ _ _ h => h) (Or.inl ⟨by rfl, ?_⟩) hHeld ?_ ?_
        rotate_left
        · rintro w' ⟨s0, s1, s2⟩
          go_simp
          with_reducible rfl
        rotate_left
        · simp only [Act.put, List.setIfInBounds_toArray, List.set_cons_zero, List.set_cons_succ, i64_w, i32_w]
          rfl
        refine take_ (i := 4) (N := some 41) (v := ?_) (a' := ?_) #[true, true, true, false, true, false, false, false, false, false, false, false, false, false, false, false, false, false, false] rfl rfl (take_ofW HT_.out HW_.out (by kernel_rfl)) (fun _ _ _ h => h) (Or.inl ⟨by rfl, ?_⟩) hHeld ?_ ?_
        rotate_left
        · rintro w' ⟨s0, s1, s2⟩
          go_simp
          with_reducible rfl
        rotate_left
        · simp only [Act.put, List.setIfInBounds_toArray, List.set_cons_zero, List.set_cons_succ, i64_w, i32_w]
          rfl
        refine one_ (i := 3) (N := some 40) #[true, true, true, true, true, false, false, false, false, false, false, false, false, false, false, false, false, false, false] rfl rfl (one_of HT_.out (by kernel_rfl)) (by decide) (fun K hK => ?_)
        refine goes_ Try.func13 (by kernel_rfl) rfl #[.agg #[.int .i64 a0_0, .int .i64 a0_1, .slice A0_2 l0_2.length c0_2]] (by rfl) rfl rfl (by (try simp only [List.map_toArray, List.map_cons, List.map_nil]); rfl) ?_
        with_reducible refine (value_Valid.calls a0_0 a0_1 _ _ l0_2 t307 _ ?side1 ?side2 A24.out).mono ?_
        (case side1 => repeat (exact (Kd.C_below HR0_2.out HB.out)))
        (case side2 => exact HC0_2.out)
        rintro e w29 ⟨rfl, hb⟩
        refine ⟨_, rfl, ?_⟩
        replace BK299 := Aside0.mk (blk_below BK299.out hb)
        replace BK300 := Aside0.mk (blk_below BK300.out hb)
        replace BK301 := Aside0.mk (blk_below BK301.out hb)
        replace HB := Aside0.mk (below_step HB.out hb)
        (try clear hb)
        refine hK.out _ _ ⟨(blk_cell BK299.out 0).trans rfl, (blk_cell BK299.out 1).trans rfl, (blk_cell BK299.out 2).trans rfl⟩ (fun hHeld => ?_)
        clear hK K
        refine norm_ (a' := ?_) ?_ ?_
        rotate_left
        · show Act.put _ (some 40) _ = _
          simp only [Act.put, List.setIfInBounds_toArray, List.set_cons_zero, List.set_cons_succ, i64_w, i32_w]
          rfl
        refine one_ (i := 5) (N := some 42) #[true, true, true, true, true, true, false, false, false, false, false, false, false, false, false, false, false, false, false] rfl rfl (one_of HT_.out (by kernel_rfl)) (by decide) (fun K hK => ?_)
        refine goes_ Try.func14 (by kernel_rfl) rfl #[.agg #[.int .i64 a0_0, .int .i64 a0_1, .slice A0_2 l0_2.length c0_2]] (by rfl) rfl rfl (by (try simp only [List.map_toArray, List.map_cons, List.map_nil]); rfl) ?_
        with_reducible refine (formeref14_Valid.calls k a0_0 a0_1 _ _ l0_2 t308 _ ?side1 ?side2 A25.out).mono ?_
        (case side1 => repeat (exact (Kd.C_below HR0_2.out HB.out)))
        (case side2 => exact HC0_2.out)
        rintro e w30 ⟨rfl, hb⟩
        refine ⟨_, rfl, ?_⟩
        replace BK299 := Aside0.mk (blk_below BK299.out hb)
        replace BK300 := Aside0.mk (blk_below BK300.out hb)
        replace BK301 := Aside0.mk (blk_below BK301.out hb)
        replace HB := Aside0.mk (below_step HB.out hb)
        (try clear hb)
        refine hK.out _ _ ⟨(blk_cell BK299.out 0).trans rfl, (blk_cell BK299.out 1).trans rfl, (blk_cell BK299.out 2).trans rfl⟩ (fun hHeld => ?_)
        clear hK K
        refine norm_ (a' := ?_) ?_ ?_
        rotate_left
        · show Act.put _ (some 42) _ = _
          simp only [Act.put, List.setIfInBounds_toArray, List.set_cons_zero, List.set_cons_succ, i64_w, i32_w]
          rfl
        refine pure_ (i := 6) (N := some 43) (v := ?_) (a' := ?_) #[true, true, true, true, true, true, true, false, false, false, false, false, false, false, false, false, false, false, false] rfl rfl (any_of HT_.out (by kernel_rfl)) (fun _ _ _ h => h) (Or.inl ⟨by rfl, ?_⟩) ?_ ?_
        rotate_left
        · intro w'
          go_simp
          with_reducible rfl
        rotate_left
        · simp only [Act.put, List.setIfInBounds_toArray, List.set_cons_zero, List.set_cons_succ, i64_w, i32_w]
          rfl
        refine pure_ (i := 7) (N := some 44) (v := ?_) (a' := ?_) #[true, true, true, true, true, true, true, true, false, false, false, false, false, false, false, false, false, false, false] rfl rfl (any_of HT_.out (by kernel_rfl)) (fun _ _ _ h => h) (Or.inl ⟨by rfl, ?_⟩) ?_ ?_
        rotate_left
        · intro w'
          go_simp
          with_reducible rfl
        rotate_left
        · simp only [Act.put, List.setIfInBounds_toArray, List.set_cons_zero, List.set_cons_succ, i64_w, i32_w]
          rfl
        refine pure_ (i := 8) (N := some 45) (v := ?_) (a' := ?_) #[true, true, true, true, true, true, true, true, true, false, false, false, false, false, false, false, false, false, false] rfl rfl (any_of HT_.out (by kernel_rfl)) (fun _ _ _ h => h) (Or.inl ⟨by rfl, ?_⟩) ?_ ?_
        rotate_left
        · intro w'
          go_simp
          with_reducible rfl
        rotate_left
        · simp only [Act.put, List.setIfInBounds_toArray, List.set_cons_zero, List.set_cons_succ, i64_w, i32_w]
          rfl
        refine pure_ (i := 9) (N := some 46) (v := ?_) (a' := ?_) #[true, true, true, true, true, true, true, true, true, true, false, false, false, false, false, false, false, false, false] rfl rfl (any_of HT_.out (by kernel_rfl)) (fun _ _ _ h => h) (Or.inl ⟨by rfl, ?_⟩) ?_ ?_
        rotate_left
        · intro w'
          go_simp
          with_reducible rfl
        rotate_left
        · simp only [Act.put, List.setIfInBounds_toArray, List.set_cons_zero, List.set_cons_succ, i64_w, i32_w]
          rfl
        refine pure_ (i := 10) (N := some 47) (v := ?_) (a' := ?_) #[true, true, true, true, true, true, true, true, true, true, true, false, false, false, false, false, false, false, false] rfl rfl (any_of HT_.out (by kernel_rfl)) (fun _ _ _ h => h) (Or.inl ⟨by rfl, ?_⟩) ?_ ?_
        rotate_left
        · intro w'
          go_simp
          with_reducible rfl
        rotate_left
        · simp only [Act.put, List.setIfInBounds_toArray, List.set_cons_zero, List.set_cons_succ, i64_w, i32_w]
          rfl
        refine pure_ (i := 11) (N := some 48) (v := ?_) (a' := ?_) #[true, true, true, true, true, true, true, true, true, true, true, true, false, false, false, false, false, false, false] rfl rfl (any_of HT_.out (by kernel_rfl)) (fun _ _ _ h => h) (Or.inl ⟨by rfl, ?_⟩) ?_ ?_
        rotate_left
        · intro w'
          go_simp
          with_reducible rfl
        rotate_left
        · simp only [Act.put, List.setIfInBounds_toArray, List.set_cons_zero, List.set_cons_succ, i64_w, i32_w]
          rfl
        refine pure_ (i := 12) (N := some 49) (v := ?_) (a' := ?_) #[true, true, true, true, true, true, true, true, true, true, true, true, true, false, false, false, false, false, false] rfl rfl (any_of HT_.out (by kernel_rfl)) (fun _ _ _ h => h) (Or.inl ⟨by rfl, ?_⟩) ?_ ?_
        rotate_left
        · intro w'
          go_simp
          with_reducible rfl
        rotate_left
        · simp only [Act.put, List.setIfInBounds_toArray, List.set_cons_zero, List.set_cons_succ, i64_w, i32_w]
          rfl
        refine pure_ (i := 13) (N := some 50) (v := ?_) (a' := ?_) #[true, true, true, true, true, true, true, true, true, true, true, true, true, true, false, false, false, false, false] rfl rfl (any_of HT_.out (by kernel_rfl)) (fun _ _ _ h => h) (Or.inl ⟨by rfl, ?_⟩) ?_ ?_
        rotate_left
        · intro w'
          go_simp
          with_reducible rfl
        rotate_left
        · simp only [Act.put, List.setIfInBounds_toArray, List.set_cons_zero, List.set_cons_succ, i64_w, i32_w]
          rfl
        refine pure_ (i := 14) (N := some 51) (v := ?_) (a' := ?_) #[true, true, true, true, true, true, true, true, true, true, true, true, true, true, true, false, false, false, false] rfl rfl (any_of HT_.out (by kernel_rfl)) (fun _ _ _ h => h) (Or.inl ⟨by rfl, ?_⟩) ?_ ?_
        rotate_left
        · intro w'
          go_simp
          with_reducible rfl
        rotate_left
        · simp only [Act.put, List.setIfInBounds_toArray, List.set_cons_zero, List.set_cons_succ, i64_w, i32_w]
          rfl
        refine pure_ (i := 15) (N := some 52) (v := ?_) (a' := ?_) #[true, true, true, true, true, true, true, true, true, true, true, true, true, true, true, true, false, false, false] rfl rfl (any_of HT_.out (by kernel_rfl)) (fun _ _ _ h => h) (Or.inl ⟨by rfl, ?_⟩) ?_ ?_
        rotate_left
        · intro w'
          go_simp
          with_reducible rfl
        rotate_left
        · simp only [Act.put, List.setIfInBounds_toArray, List.set_cons_zero, List.set_cons_succ, i64_w, i32_w]
          rfl
        refine pure_ (i := 16) (N := some 53) (v := ?_) (a' := ?_) #[true, true, true, true, true, true, true, true, true, true, true, true, true, true, true, true, true, false, false] rfl rfl (any_of HT_.out (by kernel_rfl)) (fun _ _ _ h => h) (Or.inl ⟨by rfl, ?_⟩) ?_ ?_
        rotate_left
        · intro w'
          go_simp
          with_reducible rfl
        rotate_left
        · simp only [Act.put, List.setIfInBounds_toArray, List.set_cons_zero, List.set_cons_succ, i64_w, i32_w]
          rfl
        refine pure_ (i := 17) (N := some 54) (v := ?_) (a' := ?_) #[true, true, true, true, true, true, true, true, true, true, true, true, true, true, true, true, true, true, false] rfl rfl (any_of HT_.out (by kernel_rfl)) (fun _ _ _ h => h) (Or.inl ⟨by rfl, ?_⟩) ?_ ?_
        rotate_left
        · intro w'
          go_simp
          with_reducible rfl
        rotate_left
        · simp only [Act.put, List.setIfInBounds_toArray, List.set_cons_zero, List.set_cons_succ, i64_w, i32_w]
          rfl
        refine pure_ (i := 18) (N := some 11) (v := ?_) (a' := ?_) #[true, true, true, true, true, true, true, true, true, true, true, true, true, true, true, true, true, true, true] rfl rfl (any_of HT_.out (by kernel_rfl)) (fun _ _ _ h => h) (Or.inl ⟨by rfl, ?_⟩) ?_ ?_
        rotate_left
        · intro w'
          go_simp
          with_reducible rfl
        rotate_left
        · simp only [Act.put, List.setIfInBounds_toArray, List.set_cons_zero, List.set_cons_succ, i64_w, i32_w]
          rfl
        refine done_ (done_of HT_.out (by kernel_rfl)) ?_
        try go_wp2
        go_meet
        case rel => exact ⟨_, ((t304 == t306)), (by rfl), H', ⟨by omega⟩, ⟨by (with_reducible repeat (fail)); exact BK299.out⟩, ⟨by (with_reducible repeat (fail)); exact BK300.out⟩, ⟨by (with_reducible repeat (fail)); exact BK301.out⟩, ⟨by repeat ((with_reducible exact HB.out))⟩⟩
      · rw [if_neg c27] at H
        have c27b0 : (t303 == t305) = false := beq_eq_false_iff_ne.mpr c27
        have c27b1 : (t303 != t305) = true := bne_iff_ne.mpr c27
        have H' := Aside0.mk H
        clear H
        try go_wp2
        replace BK299 := Aside0.mk (blk_drew BK299.out)
        replace BK300 := Aside0.mk (blk_drew BK300.out)
        replace BK301 := Aside0.mk (blk_drew BK301.out)
        replace HB := Aside0.mk (below_drew1 HB.out)
        refine start_ (n := 19) (S := fun w' => w'.cell? ⟨gb299, 0, none⟩ = some (.int .i64 a0_0) ∧ w'.cell? ⟨gb299, 1, none⟩ = some (.int .i64 a0_1) ∧ w'.cell? ⟨gb299, 2, none⟩ = some (.slice A0_2 l0_2.length c0_2)) (ds := []) #[false, false, false, false, false, false, false, false, false, false, false, false, false, false, false, false, false, false, false] (by kernel_rfl) rfl rfl ⟨(blk_cell BK299.out 0).trans rfl, (blk_cell BK299.out 1).trans rfl, (blk_cell BK299.out 2).trans rfl⟩ (fun hHeld => ?_); refine with_tabW formelaw14_ValueMatchesReference.tab4 formelaw14_ValueMatchesReference.bits4 (fun HT_ HW_ => ?_)
        generalize w22.drew = w31 at BK299 BK300 BK301 HB hHeld ⊢
        refine pure_ (i := 0) (N := some 37) (v := ?_) (a' := ?_) #[true, false, false, false, false, false, false, false, false, false, false, false, false, false, false, false, false, false, false] rfl rfl (any_of HT_.out (by kernel_rfl)) (fun _ _ _ h => h) (Or.inl ⟨by rfl, ?_⟩) ?_ ?_
        rotate_left
        · intro w'
          go_simp
          with_reducible rfl
        rotate_left
        · simp only [Act.put, List.setIfInBounds_toArray, List.set_cons_zero, List.set_cons_succ, i64_w, i32_w]
          rfl
        refine pure_ (i := 1) (N := some 38) (v := ?_) (a' := ?_) #[true, true, false, false, false, false, false, false, false, false, false, false, false, false, false, false, false, false, false] rfl rfl (any_of HT_.out (by kernel_rfl)) (fun _ _ _ h => h) (Or.inl ⟨by rfl, ?_⟩) ?_ ?_
        rotate_left
        · intro w'
          go_simp
          with_reducible rfl
        rotate_left
        · simp only [Act.put, List.setIfInBounds_toArray, List.set_cons_zero, List.set_cons_succ, i64_w, i32_w]
          rfl
        refine take_ (i := 2) (N := some 39) (v := ?_) (a' := ?_) #[true, true, true, false, false, false, false, false, false, false, false, false, false, false, false, false, false, false, false] rfl rfl (take_ofW HT_.out HW_.out (by kernel_rfl)) (fun _ _ _ h => h) (Or.inl ⟨by rfl, ?_⟩) hHeld ?_ ?_
        rotate_left
        · rintro w' ⟨s0, s1, s2⟩
          go_simp
          with_reducible rfl
        rotate_left
        · simp only [Act.put, List.setIfInBounds_toArray, List.set_cons_zero, List.set_cons_succ, i64_w, i32_w]
          rfl
        refine take_ (i := 4) (N := some 41) (v := ?_) (a' := ?_) #[true, true, true, false, true, false, false, false, false, false, false, false, false, false, false, false, false, false, false] rfl rfl (take_ofW HT_.out HW_.out (by kernel_rfl)) (fun _ _ _ h => h) (Or.inl ⟨by rfl, ?_⟩) hHeld ?_ ?_
        rotate_left
        · rintro w' ⟨s0, s1, s2⟩
          go_simp
          with_reducible rfl
        rotate_left
        · simp only [Act.put, List.setIfInBounds_toArray, List.set_cons_zero, List.set_cons_succ, i64_w, i32_w]
          rfl
        refine one_ (i := 3) (N := some 40) #[true, true, true, true, true, false, false, false, false, false, false, false, false, false, false, false, false, false, false] rfl rfl (one_of HT_.out (by kernel_rfl)) (by decide) (fun K hK => ?_)
        refine goes_ Try.func13 (by kernel_rfl) rfl #[.agg #[.int .i64 a0_0, .int .i64 a0_1, .slice A0_2 l0_2.length c0_2]] (by rfl) rfl rfl (by (try simp only [List.map_toArray, List.map_cons, List.map_nil]); rfl) ?_
        with_reducible refine (value_Valid.calls a0_0 a0_1 _ _ l0_2 t307 _ ?side1 ?side2 A24.out).mono ?_
        (case side1 => repeat (exact (Kd.C_below HR0_2.out HB.out)))
        (case side2 => exact HC0_2.out)
        rintro e w32 ⟨rfl, hb⟩
        refine ⟨_, rfl, ?_⟩
        replace BK299 := Aside0.mk (blk_below BK299.out hb)
        replace BK300 := Aside0.mk (blk_below BK300.out hb)
        replace BK301 := Aside0.mk (blk_below BK301.out hb)
        replace HB := Aside0.mk (below_step HB.out hb)
        (try clear hb)
        refine hK.out _ _ ⟨(blk_cell BK299.out 0).trans rfl, (blk_cell BK299.out 1).trans rfl, (blk_cell BK299.out 2).trans rfl⟩ (fun hHeld => ?_)
        clear hK K
        refine norm_ (a' := ?_) ?_ ?_
        rotate_left
        · show Act.put _ (some 40) _ = _
          simp only [Act.put, List.setIfInBounds_toArray, List.set_cons_zero, List.set_cons_succ, i64_w, i32_w]
          rfl
        refine one_ (i := 5) (N := some 42) #[true, true, true, true, true, true, false, false, false, false, false, false, false, false, false, false, false, false, false] rfl rfl (one_of HT_.out (by kernel_rfl)) (by decide) (fun K hK => ?_)
        refine goes_ Try.func14 (by kernel_rfl) rfl #[.agg #[.int .i64 a0_0, .int .i64 a0_1, .slice A0_2 l0_2.length c0_2]] (by rfl) rfl rfl (by (try simp only [List.map_toArray, List.map_cons, List.map_nil]); rfl) ?_
        with_reducible refine (formeref14_Valid.calls k a0_0 a0_1 _ _ l0_2 t308 _ ?side1 ?side2 A25.out).mono ?_
        (case side1 => repeat (exact (Kd.C_below HR0_2.out HB.out)))
        (case side2 => exact HC0_2.out)
        rintro e w33 ⟨rfl, hb⟩
        refine ⟨_, rfl, ?_⟩
        replace BK299 := Aside0.mk (blk_below BK299.out hb)
        replace BK300 := Aside0.mk (blk_below BK300.out hb)
        replace BK301 := Aside0.mk (blk_below BK301.out hb)
        replace HB := Aside0.mk (below_step HB.out hb)
        (try clear hb)
        refine hK.out _ _ ⟨(blk_cell BK299.out 0).trans rfl, (blk_cell BK299.out 1).trans rfl, (blk_cell BK299.out 2).trans rfl⟩ (fun hHeld => ?_)
        clear hK K
        refine norm_ (a' := ?_) ?_ ?_
        rotate_left
        · show Act.put _ (some 42) _ = _
          simp only [Act.put, List.setIfInBounds_toArray, List.set_cons_zero, List.set_cons_succ, i64_w, i32_w]
          rfl
        refine pure_ (i := 6) (N := some 43) (v := ?_) (a' := ?_) #[true, true, true, true, true, true, true, false, false, false, false, false, false, false, false, false, false, false, false] rfl rfl (any_of HT_.out (by kernel_rfl)) (fun _ _ _ h => h) (Or.inl ⟨by rfl, ?_⟩) ?_ ?_
        rotate_left
        · intro w'
          go_simp
          with_reducible rfl
        rotate_left
        · simp only [Act.put, List.setIfInBounds_toArray, List.set_cons_zero, List.set_cons_succ, i64_w, i32_w]
          rfl
        refine pure_ (i := 7) (N := some 44) (v := ?_) (a' := ?_) #[true, true, true, true, true, true, true, true, false, false, false, false, false, false, false, false, false, false, false] rfl rfl (any_of HT_.out (by kernel_rfl)) (fun _ _ _ h => h) (Or.inl ⟨by rfl, ?_⟩) ?_ ?_
        rotate_left
        · intro w'
          go_simp
          with_reducible rfl
        rotate_left
        · simp only [Act.put, List.setIfInBounds_toArray, List.set_cons_zero, List.set_cons_succ, i64_w, i32_w]
          rfl
        refine pure_ (i := 8) (N := some 45) (v := ?_) (a' := ?_) #[true, true, true, true, true, true, true, true, true, false, false, false, false, false, false, false, false, false, false] rfl rfl (any_of HT_.out (by kernel_rfl)) (fun _ _ _ h => h) (Or.inl ⟨by rfl, ?_⟩) ?_ ?_
        rotate_left
        · intro w'
          go_simp
          with_reducible rfl
        rotate_left
        · simp only [Act.put, List.setIfInBounds_toArray, List.set_cons_zero, List.set_cons_succ, i64_w, i32_w]
          rfl
        refine pure_ (i := 9) (N := some 46) (v := ?_) (a' := ?_) #[true, true, true, true, true, true, true, true, true, true, false, false, false, false, false, false, false, false, false] rfl rfl (any_of HT_.out (by kernel_rfl)) (fun _ _ _ h => h) (Or.inl ⟨by rfl, ?_⟩) ?_ ?_
        rotate_left
        · intro w'
          go_simp
          with_reducible rfl
        rotate_left
        · simp only [Act.put, List.setIfInBounds_toArray, List.set_cons_zero, List.set_cons_succ, i64_w, i32_w]
          rfl
        refine pure_ (i := 10) (N := some 47) (v := ?_) (a' := ?_) #[true, true, true, true, true, true, true, true, true, true, true, false, false, false, false, false, false, false, false] rfl rfl (any_of HT_.out (by kernel_rfl)) (fun _ _ _ h => h) (Or.inl ⟨by rfl, ?_⟩) ?_ ?_
        rotate_left
        · intro w'
          go_simp
          with_reducible rfl
        rotate_left
        · simp only [Act.put, List.setIfInBounds_toArray, List.set_cons_zero, List.set_cons_succ, i64_w, i32_w]
          rfl
        refine pure_ (i := 11) (N := some 48) (v := ?_) (a' := ?_) #[true, true, true, true, true, true, true, true, true, true, true, true, false, false, false, false, false, false, false] rfl rfl (any_of HT_.out (by kernel_rfl)) (fun _ _ _ h => h) (Or.inl ⟨by rfl, ?_⟩) ?_ ?_
        rotate_left
        · intro w'
          go_simp
          with_reducible rfl
        rotate_left
        · simp only [Act.put, List.setIfInBounds_toArray, List.set_cons_zero, List.set_cons_succ, i64_w, i32_w]
          rfl
        refine pure_ (i := 12) (N := some 49) (v := ?_) (a' := ?_) #[true, true, true, true, true, true, true, true, true, true, true, true, true, false, false, false, false, false, false] rfl rfl (any_of HT_.out (by kernel_rfl)) (fun _ _ _ h => h) (Or.inl ⟨by rfl, ?_⟩) ?_ ?_
        rotate_left
        · intro w'
          go_simp
          with_reducible rfl
        rotate_left
        · simp only [Act.put, List.setIfInBounds_toArray, List.set_cons_zero, List.set_cons_succ, i64_w, i32_w]
          rfl
        refine pure_ (i := 13) (N := some 50) (v := ?_) (a' := ?_) #[true, true, true, true, true, true, true, true, true, true, true, true, true, true, false, false, false, false, false] rfl rfl (any_of HT_.out (by kernel_rfl)) (fun _ _ _ h => h) (Or.inl ⟨by rfl, ?_⟩) ?_ ?_
        rotate_left
        · intro w'
          go_simp
          with_reducible rfl
        rotate_left
        · simp only [Act.put, List.setIfInBounds_toArray, List.set_cons_zero, List.set_cons_succ, i64_w, i32_w]
          rfl
        refine pure_ (i := 14) (N := some 51) (v := undef) (a' := ?_) #[true, true, true, true, true, true, true, true, true, true, true, true, true, true, true, false, false, false, false] rfl rfl (any_of HT_.out (by kernel_rfl)) (fun _ _ _ h => h) (Or.inr ⟨by rfl, rfl⟩) ?_ ?_
        rotate_left
        · simp only [Act.put, List.setIfInBounds_toArray, List.set_cons_zero, List.set_cons_succ, i64_w, i32_w]
          rfl
        refine pure_ (i := 15) (N := some 52) (v := undef) (a' := ?_) #[true, true, true, true, true, true, true, true, true, true, true, true, true, true, true, true, false, false, false] rfl rfl (any_of HT_.out (by kernel_rfl)) (fun _ _ _ h => h) (Or.inr ⟨by rfl, rfl⟩) ?_ ?_
        rotate_left
        · simp only [Act.put, List.setIfInBounds_toArray, List.set_cons_zero, List.set_cons_succ, i64_w, i32_w]
          rfl
        refine pure_ (i := 16) (N := some 53) (v := undef) (a' := ?_) #[true, true, true, true, true, true, true, true, true, true, true, true, true, true, true, true, true, false, false] rfl rfl (any_of HT_.out (by kernel_rfl)) (fun _ _ _ h => h) (Or.inr ⟨by rfl, rfl⟩) ?_ ?_
        rotate_left
        · simp only [Act.put, List.setIfInBounds_toArray, List.set_cons_zero, List.set_cons_succ, i64_w, i32_w]
          rfl
        refine pure_ (i := 17) (N := some 54) (v := ?_) (a' := ?_) #[true, true, true, true, true, true, true, true, true, true, true, true, true, true, true, true, true, true, false] rfl rfl (any_of HT_.out (by kernel_rfl)) (fun _ _ _ h => h) (Or.inl ⟨by rfl, ?_⟩) ?_ ?_
        rotate_left
        · intro w'
          go_simp
          with_reducible rfl
        rotate_left
        · simp only [Act.put, List.setIfInBounds_toArray, List.set_cons_zero, List.set_cons_succ, i64_w, i32_w]
          rfl
        refine pure_ (i := 18) (N := some 11) (v := ?_) (a' := ?_) #[true, true, true, true, true, true, true, true, true, true, true, true, true, true, true, true, true, true, true] rfl rfl (any_of HT_.out (by kernel_rfl)) (fun _ _ _ h => h) (Or.inl ⟨by rfl, ?_⟩) ?_ ?_
        rotate_left
        · intro w'
          go_simp
          with_reducible rfl
        rotate_left
        · simp only [Act.put, List.setIfInBounds_toArray, List.set_cons_zero, List.set_cons_succ, i64_w, i32_w]
          rfl
        refine done_ (done_of HT_.out (by kernel_rfl)) ?_
        try go_wp2
        go_meet
        case rel => exact ⟨_, (false), (by rfl), H', ⟨by omega⟩, ⟨by (with_reducible repeat (fail)); exact BK299.out⟩, ⟨by (with_reducible repeat (fail)); exact BK300.out⟩, ⟨by (with_reducible repeat (fail)); exact BK301.out⟩, ⟨by repeat ((with_reducible exact HB.out))⟩⟩
    · rw [if_neg c26] at H
      have c26b0 : (t307 == t308) = false := by simpa using c26
      (try (have c26b1 : decide (t307 = t308) = false := by simpa using c26))
      (try (have c26b2 : (t307 == t308) = false := by simpa using c26))
      (try (have c26b3 : ¬ (t307 = t308) := by simpa using c26))
      clear c26
      have H' := Aside0.mk H
      clear H
      try go_wp2
      replace BK299 := Aside0.mk (blk_drew BK299.out)
      replace BK300 := Aside0.mk (blk_drew BK300.out)
      replace BK301 := Aside0.mk (blk_drew BK301.out)
      replace HB := Aside0.mk (below_drew1 HB.out)
      refine start_ (n := 19) (S := fun w' => w'.cell? ⟨gb299, 0, none⟩ = some (.int .i64 a0_0) ∧ w'.cell? ⟨gb299, 1, none⟩ = some (.int .i64 a0_1) ∧ w'.cell? ⟨gb299, 2, none⟩ = some (.slice A0_2 l0_2.length c0_2)) (ds := []) #[false, false, false, false, false, false, false, false, false, false, false, false, false, false, false, false, false, false, false] (by kernel_rfl) rfl rfl ⟨(blk_cell BK299.out 0).trans rfl, (blk_cell BK299.out 1).trans rfl, (blk_cell BK299.out 2).trans rfl⟩ (fun hHeld => ?_); refine with_tabW formelaw14_ValueMatchesReference.tab4 formelaw14_ValueMatchesReference.bits4 (fun HT_ HW_ => ?_)
      generalize w22.drew = w34 at BK299 BK300 BK301 HB hHeld ⊢
      refine pure_ (i := 0) (N := some 37) (v := ?_) (a' := ?_) #[true, false, false, false, false, false, false, false, false, false, false, false, false, false, false, false, false, false, false] rfl rfl (any_of HT_.out (by kernel_rfl)) (fun _ _ _ h => h) (Or.inl ⟨by rfl, ?_⟩) ?_ ?_
      rotate_left
      · intro w'
        go_simp
        with_reducible rfl
      rotate_left
      · simp only [Act.put, List.setIfInBounds_toArray, List.set_cons_zero, List.set_cons_succ, i64_w, i32_w]
        rfl
      refine pure_ (i := 1) (N := some 38) (v := ?_) (a' := ?_) #[true, true, false, false, false, false, false, false, false, false, false, false, false, false, false, false, false, false, false] rfl rfl (any_of HT_.out (by kernel_rfl)) (fun _ _ _ h => h) (Or.inl ⟨by rfl, ?_⟩) ?_ ?_
      rotate_left
      · intro w'
        go_simp
        with_reducible rfl
      rotate_left
      · simp only [Act.put, List.setIfInBounds_toArray, List.set_cons_zero, List.set_cons_succ, i64_w, i32_w]
        rfl
      refine take_ (i := 2) (N := some 39) (v := ?_) (a' := ?_) #[true, true, true, false, false, false, false, false, false, false, false, false, false, false, false, false, false, false, false] rfl rfl (take_ofW HT_.out HW_.out (by kernel_rfl)) (fun _ _ _ h => h) (Or.inl ⟨by rfl, ?_⟩) hHeld ?_ ?_
      rotate_left
      · rintro w' ⟨s0, s1, s2⟩
        go_simp
        with_reducible rfl
      rotate_left
      · simp only [Act.put, List.setIfInBounds_toArray, List.set_cons_zero, List.set_cons_succ, i64_w, i32_w]
        rfl
      refine take_ (i := 4) (N := some 41) (v := ?_) (a' := ?_) #[true, true, true, false, true, false, false, false, false, false, false, false, false, false, false, false, false, false, false] rfl rfl (take_ofW HT_.out HW_.out (by kernel_rfl)) (fun _ _ _ h => h) (Or.inl ⟨by rfl, ?_⟩) hHeld ?_ ?_
      rotate_left
      · rintro w' ⟨s0, s1, s2⟩
        go_simp
        with_reducible rfl
      rotate_left
      · simp only [Act.put, List.setIfInBounds_toArray, List.set_cons_zero, List.set_cons_succ, i64_w, i32_w]
        rfl
      refine one_ (i := 3) (N := some 40) #[true, true, true, true, true, false, false, false, false, false, false, false, false, false, false, false, false, false, false] rfl rfl (one_of HT_.out (by kernel_rfl)) (by decide) (fun K hK => ?_)
      refine goes_ Try.func13 (by kernel_rfl) rfl #[.agg #[.int .i64 a0_0, .int .i64 a0_1, .slice A0_2 l0_2.length c0_2]] (by rfl) rfl rfl (by (try simp only [List.map_toArray, List.map_cons, List.map_nil]); rfl) ?_
      with_reducible refine (value_Valid.calls a0_0 a0_1 _ _ l0_2 t307 _ ?side1 ?side2 A24.out).mono ?_
      (case side1 => repeat (exact (Kd.C_below HR0_2.out HB.out)))
      (case side2 => exact HC0_2.out)
      rintro e w35 ⟨rfl, hb⟩
      refine ⟨_, rfl, ?_⟩
      replace BK299 := Aside0.mk (blk_below BK299.out hb)
      replace BK300 := Aside0.mk (blk_below BK300.out hb)
      replace BK301 := Aside0.mk (blk_below BK301.out hb)
      replace HB := Aside0.mk (below_step HB.out hb)
      (try clear hb)
      refine hK.out _ _ ⟨(blk_cell BK299.out 0).trans rfl, (blk_cell BK299.out 1).trans rfl, (blk_cell BK299.out 2).trans rfl⟩ (fun hHeld => ?_)
      clear hK K
      refine norm_ (a' := ?_) ?_ ?_
      rotate_left
      · show Act.put _ (some 40) _ = _
        simp only [Act.put, List.setIfInBounds_toArray, List.set_cons_zero, List.set_cons_succ, i64_w, i32_w]
        rfl
      refine one_ (i := 5) (N := some 42) #[true, true, true, true, true, true, false, false, false, false, false, false, false, false, false, false, false, false, false] rfl rfl (one_of HT_.out (by kernel_rfl)) (by decide) (fun K hK => ?_)
      refine goes_ Try.func14 (by kernel_rfl) rfl #[.agg #[.int .i64 a0_0, .int .i64 a0_1, .slice A0_2 l0_2.length c0_2]] (by rfl) rfl rfl (by (try simp only [List.map_toArray, List.map_cons, List.map_nil]); rfl) ?_
      with_reducible refine (formeref14_Valid.calls k a0_0 a0_1 _ _ l0_2 t308 _ ?side1 ?side2 A25.out).mono ?_
      (case side1 => repeat (exact (Kd.C_below HR0_2.out HB.out)))
      (case side2 => exact HC0_2.out)
      rintro e w36 ⟨rfl, hb⟩
      refine ⟨_, rfl, ?_⟩
      replace BK299 := Aside0.mk (blk_below BK299.out hb)
      replace BK300 := Aside0.mk (blk_below BK300.out hb)
      replace BK301 := Aside0.mk (blk_below BK301.out hb)
      replace HB := Aside0.mk (below_step HB.out hb)
      (try clear hb)
      refine hK.out _ _ ⟨(blk_cell BK299.out 0).trans rfl, (blk_cell BK299.out 1).trans rfl, (blk_cell BK299.out 2).trans rfl⟩ (fun hHeld => ?_)
      clear hK K
      refine norm_ (a' := ?_) ?_ ?_
      rotate_left
      · show Act.put _ (some 42) _ = _
        simp only [Act.put, List.setIfInBounds_toArray, List.set_cons_zero, List.set_cons_succ, i64_w, i32_w]
        rfl
      refine pure_ (i := 6) (N := some 43) (v := ?_) (a' := ?_) #[true, true, true, true, true, true, true, false, false, false, false, false, false, false, false, false, false, false, false] rfl rfl (any_of HT_.out (by kernel_rfl)) (fun _ _ _ h => h) (Or.inl ⟨by rfl, ?_⟩) ?_ ?_
      rotate_left
      · intro w'
        go_simp
        with_reducible rfl
      rotate_left
      · simp only [Act.put, List.setIfInBounds_toArray, List.set_cons_zero, List.set_cons_succ, i64_w, i32_w]
        rfl
      refine pure_ (i := 7) (N := some 44) (v := ?_) (a' := ?_) #[true, true, true, true, true, true, true, true, false, false, false, false, false, false, false, false, false, false, false] rfl rfl (any_of HT_.out (by kernel_rfl)) (fun _ _ _ h => h) (Or.inl ⟨by rfl, ?_⟩) ?_ ?_
      rotate_left
      · intro w'
        go_simp
        with_reducible rfl
      rotate_left
      · simp only [Act.put, List.setIfInBounds_toArray, List.set_cons_zero, List.set_cons_succ, i64_w, i32_w]
        rfl
      refine pure_ (i := 8) (N := some 45) (v := ?_) (a' := ?_) #[true, true, true, true, true, true, true, true, true, false, false, false, false, false, false, false, false, false, false] rfl rfl (any_of HT_.out (by kernel_rfl)) (fun _ _ _ h => h) (Or.inl ⟨by rfl, ?_⟩) ?_ ?_
      rotate_left
      · intro w'
        go_simp
        with_reducible rfl
      rotate_left
      · simp only [Act.put, List.setIfInBounds_toArray, List.set_cons_zero, List.set_cons_succ, i64_w, i32_w]
        rfl
      refine pure_ (i := 9) (N := some 46) (v := undef) (a' := ?_) #[true, true, true, true, true, true, true, true, true, true, false, false, false, false, false, false, false, false, false] rfl rfl (any_of HT_.out (by kernel_rfl)) (fun _ _ _ h => h) (Or.inr ⟨by rfl, rfl⟩) ?_ ?_
      rotate_left
      · simp only [Act.put, List.setIfInBounds_toArray, List.set_cons_zero, List.set_cons_succ, i64_w, i32_w]
        rfl
      refine pure_ (i := 10) (N := some 47) (v := undef) (a' := ?_) #[true, true, true, true, true, true, true, true, true, true, true, false, false, false, false, false, false, false, false] rfl rfl (any_of HT_.out (by kernel_rfl)) (fun _ _ _ h => h) (Or.inr ⟨by rfl, rfl⟩) ?_ ?_
      rotate_left
      · simp only [Act.put, List.setIfInBounds_toArray, List.set_cons_zero, List.set_cons_succ, i64_w, i32_w]
        rfl
      refine pure_ (i := 11) (N := some 48) (v := undef) (a' := ?_) #[true, true, true, true, true, true, true, true, true, true, true, true, false, false, false, false, false, false, false] rfl rfl (any_of HT_.out (by kernel_rfl)) (fun _ _ _ h => h) (Or.inr ⟨by rfl, rfl⟩) ?_ ?_
      rotate_left
      · simp only [Act.put, List.setIfInBounds_toArray, List.set_cons_zero, List.set_cons_succ, i64_w, i32_w]
        rfl
      refine pure_ (i := 12) (N := some 49) (v := ?_) (a' := ?_) #[true, true, true, true, true, true, true, true, true, true, true, true, true, false, false, false, false, false, false] rfl rfl (any_of HT_.out (by kernel_rfl)) (fun _ _ _ h => h) (Or.inl ⟨by rfl, ?_⟩) ?_ ?_
      rotate_left
      · intro w'
        go_simp
        with_reducible rfl
      rotate_left
      · simp only [Act.put, List.setIfInBounds_toArray, List.set_cons_zero, List.set_cons_succ, i64_w, i32_w]
        rfl
      refine pure_ (i := 13) (N := some 50) (v := ?_) (a' := ?_) #[true, true, true, true, true, true, true, true, true, true, true, true, true, true, false, false, false, false, false] rfl rfl (any_of HT_.out (by kernel_rfl)) (fun _ _ _ h => h) (Or.inl ⟨by rfl, ?_⟩) ?_ ?_
      rotate_left
      · intro w'
        go_simp
        with_reducible rfl
      rotate_left
      · simp only [Act.put, List.setIfInBounds_toArray, List.set_cons_zero, List.set_cons_succ, i64_w, i32_w]
        rfl
      refine pure_ (i := 14) (N := some 51) (v := undef) (a' := ?_) #[true, true, true, true, true, true, true, true, true, true, true, true, true, true, true, false, false, false, false] rfl rfl (any_of HT_.out (by kernel_rfl)) (fun _ _ _ h => h) (Or.inr ⟨by rfl, rfl⟩) ?_ ?_
      rotate_left
      · simp only [Act.put, List.setIfInBounds_toArray, List.set_cons_zero, List.set_cons_succ, i64_w, i32_w]
        rfl
      refine pure_ (i := 15) (N := some 52) (v := undef) (a' := ?_) #[true, true, true, true, true, true, true, true, true, true, true, true, true, true, true, true, false, false, false] rfl rfl (any_of HT_.out (by kernel_rfl)) (fun _ _ _ h => h) (Or.inr ⟨by rfl, rfl⟩) ?_ ?_
      rotate_left
      · simp only [Act.put, List.setIfInBounds_toArray, List.set_cons_zero, List.set_cons_succ, i64_w, i32_w]
        rfl
      refine pure_ (i := 16) (N := some 53) (v := undef) (a' := ?_) #[true, true, true, true, true, true, true, true, true, true, true, true, true, true, true, true, true, false, false] rfl rfl (any_of HT_.out (by kernel_rfl)) (fun _ _ _ h => h) (Or.inr ⟨by rfl, rfl⟩) ?_ ?_
      rotate_left
      · simp only [Act.put, List.setIfInBounds_toArray, List.set_cons_zero, List.set_cons_succ, i64_w, i32_w]
        rfl
      refine pure_ (i := 17) (N := some 54) (v := ?_) (a' := ?_) #[true, true, true, true, true, true, true, true, true, true, true, true, true, true, true, true, true, true, false] rfl rfl (any_of HT_.out (by kernel_rfl)) (fun _ _ _ h => h) (Or.inl ⟨by rfl, ?_⟩) ?_ ?_
      rotate_left
      · intro w'
        go_simp
        with_reducible rfl
      rotate_left
      · simp only [Act.put, List.setIfInBounds_toArray, List.set_cons_zero, List.set_cons_succ, i64_w, i32_w]
        rfl
      refine pure_ (i := 18) (N := some 11) (v := ?_) (a' := ?_) #[true, true, true, true, true, true, true, true, true, true, true, true, true, true, true, true, true, true, true] rfl rfl (any_of HT_.out (by kernel_rfl)) (fun _ _ _ h => h) (Or.inl ⟨by rfl, ?_⟩) ?_ ?_
      rotate_left
      · intro w'
        go_simp
        with_reducible rfl
      rotate_left
      · simp only [Act.put, List.setIfInBounds_toArray, List.set_cons_zero, List.set_cons_succ, i64_w, i32_w]
        rfl
      refine done_ (done_of HT_.out (by kernel_rfl)) ?_
      try go_wp2
      go_meet
      case rel => exact ⟨_, (false), (by rfl), H', ⟨by omega⟩, ⟨by (with_reducible repeat (fail)); exact BK299.out⟩, ⟨by (with_reducible repeat (fail)); exact BK300.out⟩, ⟨by (with_reducible repeat (fail)); exact BK301.out⟩, ⟨by repeat ((with_reducible exact HB.out))⟩⟩
  · replace c23 := Bool.eq_false_iff.mpr c23
    subst c23
    have H1 : (formelaw14_ValueMatchesReference.j0 k a2 false a0_0 a0_1 l0_2 a3_0 a3_1 a3_2 a3_3 a3_4 a3_5 a3_6 a3_7 a4_0 a4_1) = some r := by rw [if_neg (show ¬ (false = true) by decide)] at H; exact H
    clear H
    have H := H1
    clear H1
    have H' := Aside0.mk H
    clear H
    try go_wp2
    replace BK299 := Aside0.mk (blk_drew BK299.out)
    replace BK300 := Aside0.mk (blk_drew BK300.out)
    replace BK301 := Aside0.mk (blk_drew BK301.out)
    replace HB := Aside0.mk (below_drew1 HB.out)
    refine start_ (n := 19) (S := fun w' => True) (ds := []) #[false, false, false, false, false, false, false, false, false, false, false, false, false, false, false, false, false, false, false] (by kernel_rfl) rfl rfl trivial (fun hHeld => ?_); refine with_tabW formelaw14_ValueMatchesReference.tab4 formelaw14_ValueMatchesReference.bits4 (fun HT_ HW_ => ?_)
    generalize w22.drew = w37 at BK299 BK300 BK301 HB hHeld ⊢
    refine pure_ (i := 0) (N := some 37) (v := ?_) (a' := ?_) #[true, false, false, false, false, false, false, false, false, false, false, false, false, false, false, false, false, false, false] rfl rfl (any_of HT_.out (by kernel_rfl)) (fun _ _ _ h => h) (Or.inl ⟨by rfl, ?_⟩) ?_ ?_
    rotate_left
    · intro w'
      go_simp
      with_reducible rfl
    rotate_left
    · simp only [Act.put, List.setIfInBounds_toArray, List.set_cons_zero, List.set_cons_succ, i64_w, i32_w]
      rfl
    refine pure_ (i := 1) (N := some 38) (v := ?_) (a' := ?_) #[true, true, false, false, false, false, false, false, false, false, false, false, false, false, false, false, false, false, false] rfl rfl (any_of HT_.out (by kernel_rfl)) (fun _ _ _ h => h) (Or.inl ⟨by rfl, ?_⟩) ?_ ?_
    rotate_left
    · intro w'
      go_simp
      with_reducible rfl
    rotate_left
    · simp only [Act.put, List.setIfInBounds_toArray, List.set_cons_zero, List.set_cons_succ, i64_w, i32_w]
      rfl
    refine pure_ (i := 2) (N := some 39) (v := undef) (a' := ?_) #[true, true, true, false, false, false, false, false, false, false, false, false, false, false, false, false, false, false, false] rfl rfl (any_of HT_.out (by kernel_rfl)) (fun _ _ _ h => h) (Or.inr ⟨by rfl, rfl⟩) ?_ ?_
    rotate_left
    · simp only [Act.put, List.setIfInBounds_toArray, List.set_cons_zero, List.set_cons_succ, i64_w, i32_w]
      rfl
    refine pure_ (i := 3) (N := some 40) (v := undef) (a' := ?_) #[true, true, true, true, false, false, false, false, false, false, false, false, false, false, false, false, false, false, false] rfl rfl (any_of HT_.out (by kernel_rfl)) (fun _ _ _ h => h) (Or.inr ⟨by rfl, rfl⟩) ?_ ?_
    rotate_left
    · simp only [Act.put, List.setIfInBounds_toArray, List.set_cons_zero, List.set_cons_succ, i64_w, i32_w]
      rfl
    refine pure_ (i := 4) (N := some 41) (v := undef) (a' := ?_) #[true, true, true, true, true, false, false, false, false, false, false, false, false, false, false, false, false, false, false] rfl rfl (any_of HT_.out (by kernel_rfl)) (fun _ _ _ h => h) (Or.inr ⟨by rfl, rfl⟩) ?_ ?_
    rotate_left
    · simp only [Act.put, List.setIfInBounds_toArray, List.set_cons_zero, List.set_cons_succ, i64_w, i32_w]
      rfl
    refine pure_ (i := 5) (N := some 42) (v := undef) (a' := ?_) #[true, true, true, true, true, true, false, false, false, false, false, false, false, false, false, false, false, false, false] rfl rfl (any_of HT_.out (by kernel_rfl)) (fun _ _ _ h => h) (Or.inr ⟨by rfl, rfl⟩) ?_ ?_
    rotate_left
    · simp only [Act.put, List.setIfInBounds_toArray, List.set_cons_zero, List.set_cons_succ, i64_w, i32_w]
      rfl
    refine pure_ (i := 6) (N := some 43) (v := undef) (a' := ?_) #[true, true, true, true, true, true, true, false, false, false, false, false, false, false, false, false, false, false, false] rfl rfl (any_of HT_.out (by kernel_rfl)) (fun _ _ _ h => h) (Or.inr ⟨by rfl, rfl⟩) ?_ ?_
    rotate_left
    · simp only [Act.put, List.setIfInBounds_toArray, List.set_cons_zero, List.set_cons_succ, i64_w, i32_w]
      rfl
    refine pure_ (i := 7) (N := some 44) (v := ?_) (a' := ?_) #[true, true, true, true, true, true, true, true, false, false, false, false, false, false, false, false, false, false, false] rfl rfl (any_of HT_.out (by kernel_rfl)) (fun _ _ _ h => h) (Or.inl ⟨by rfl, ?_⟩) ?_ ?_
    rotate_left
    · intro w'
      go_simp
      with_reducible rfl
    rotate_left
    · simp only [Act.put, List.setIfInBounds_toArray, List.set_cons_zero, List.set_cons_succ, i64_w, i32_w]
      rfl
    refine pure_ (i := 8) (N := some 45) (v := ?_) (a' := ?_) #[true, true, true, true, true, true, true, true, true, false, false, false, false, false, false, false, false, false, false] rfl rfl (any_of HT_.out (by kernel_rfl)) (fun _ _ _ h => h) (Or.inl ⟨by rfl, ?_⟩) ?_ ?_
    rotate_left
    · intro w'
      go_simp
      with_reducible rfl
    rotate_left
    · simp only [Act.put, List.setIfInBounds_toArray, List.set_cons_zero, List.set_cons_succ, i64_w, i32_w]
      rfl
    refine pure_ (i := 9) (N := some 46) (v := undef) (a' := ?_) #[true, true, true, true, true, true, true, true, true, true, false, false, false, false, false, false, false, false, false] rfl rfl (any_of HT_.out (by kernel_rfl)) (fun _ _ _ h => h) (Or.inr ⟨by rfl, rfl⟩) ?_ ?_
    rotate_left
    · simp only [Act.put, List.setIfInBounds_toArray, List.set_cons_zero, List.set_cons_succ, i64_w, i32_w]
      rfl
    refine pure_ (i := 10) (N := some 47) (v := undef) (a' := ?_) #[true, true, true, true, true, true, true, true, true, true, true, false, false, false, false, false, false, false, false] rfl rfl (any_of HT_.out (by kernel_rfl)) (fun _ _ _ h => h) (Or.inr ⟨by rfl, rfl⟩) ?_ ?_
    rotate_left
    · simp only [Act.put, List.setIfInBounds_toArray, List.set_cons_zero, List.set_cons_succ, i64_w, i32_w]
      rfl
    refine pure_ (i := 11) (N := some 48) (v := undef) (a' := ?_) #[true, true, true, true, true, true, true, true, true, true, true, true, false, false, false, false, false, false, false] rfl rfl (any_of HT_.out (by kernel_rfl)) (fun _ _ _ h => h) (Or.inr ⟨by rfl, rfl⟩) ?_ ?_
    rotate_left
    · simp only [Act.put, List.setIfInBounds_toArray, List.set_cons_zero, List.set_cons_succ, i64_w, i32_w]
      rfl
    refine pure_ (i := 12) (N := some 49) (v := ?_) (a' := ?_) #[true, true, true, true, true, true, true, true, true, true, true, true, true, false, false, false, false, false, false] rfl rfl (any_of HT_.out (by kernel_rfl)) (fun _ _ _ h => h) (Or.inl ⟨by rfl, ?_⟩) ?_ ?_
    rotate_left
    · intro w'
      go_simp
      with_reducible rfl
    rotate_left
    · simp only [Act.put, List.setIfInBounds_toArray, List.set_cons_zero, List.set_cons_succ, i64_w, i32_w]
      rfl
    refine pure_ (i := 13) (N := some 50) (v := ?_) (a' := ?_) #[true, true, true, true, true, true, true, true, true, true, true, true, true, true, false, false, false, false, false] rfl rfl (any_of HT_.out (by kernel_rfl)) (fun _ _ _ h => h) (Or.inl ⟨by rfl, ?_⟩) ?_ ?_
    rotate_left
    · intro w'
      go_simp
      with_reducible rfl
    rotate_left
    · simp only [Act.put, List.setIfInBounds_toArray, List.set_cons_zero, List.set_cons_succ, i64_w, i32_w]
      rfl
    refine pure_ (i := 14) (N := some 51) (v := undef) (a' := ?_) #[true, true, true, true, true, true, true, true, true, true, true, true, true, true, true, false, false, false, false] rfl rfl (any_of HT_.out (by kernel_rfl)) (fun _ _ _ h => h) (Or.inr ⟨by rfl, rfl⟩) ?_ ?_
    rotate_left
    · simp only [Act.put, List.setIfInBounds_toArray, List.set_cons_zero, List.set_cons_succ, i64_w, i32_w]
      rfl
    refine pure_ (i := 15) (N := some 52) (v := undef) (a' := ?_) #[true, true, true, true, true, true, true, true, true, true, true, true, true, true, true, true, false, false, false] rfl rfl (any_of HT_.out (by kernel_rfl)) (fun _ _ _ h => h) (Or.inr ⟨by rfl, rfl⟩) ?_ ?_
    rotate_left
    · simp only [Act.put, List.setIfInBounds_toArray, List.set_cons_zero, List.set_cons_succ, i64_w, i32_w]
      rfl
    refine pure_ (i := 16) (N := some 53) (v := undef) (a' := ?_) #[true, true, true, true, true, true, true, true, true, true, true, true, true, true, true, true, true, false, false] rfl rfl (any_of HT_.out (by kernel_rfl)) (fun _ _ _ h => h) (Or.inr ⟨by rfl, rfl⟩) ?_ ?_
    rotate_left
    · simp only [Act.put, List.setIfInBounds_toArray, List.set_cons_zero, List.set_cons_succ, i64_w, i32_w]
      rfl
    refine pure_ (i := 17) (N := some 54) (v := ?_) (a' := ?_) #[true, true, true, true, true, true, true, true, true, true, true, true, true, true, true, true, true, true, false] rfl rfl (any_of HT_.out (by kernel_rfl)) (fun _ _ _ h => h) (Or.inl ⟨by rfl, ?_⟩) ?_ ?_
    rotate_left
    · intro w'
      go_simp
      with_reducible rfl
    rotate_left
    · simp only [Act.put, List.setIfInBounds_toArray, List.set_cons_zero, List.set_cons_succ, i64_w, i32_w]
      rfl
    refine pure_ (i := 18) (N := some 11) (v := ?_) (a' := ?_) #[true, true, true, true, true, true, true, true, true, true, true, true, true, true, true, true, true, true, true] rfl rfl (any_of HT_.out (by kernel_rfl)) (fun _ _ _ h => h) (Or.inl ⟨by rfl, ?_⟩) ?_ ?_
    rotate_left
    · intro w'
      go_simp
      with_reducible rfl
    rotate_left
    · simp only [Act.put, List.setIfInBounds_toArray, List.set_cons_zero, List.set_cons_succ, i64_w, i32_w]
      rfl
    refine done_ (done_of HT_.out (by kernel_rfl)) ?_
    try go_wp2
    go_meet
    case rel => exact ⟨_, (false), (by rfl), H', ⟨by omega⟩, ⟨by (with_reducible repeat (fail)); exact BK299.out⟩, ⟨by (with_reducible repeat (fail)); exact BK300.out⟩, ⟨by (with_reducible repeat (fail)); exact BK301.out⟩, ⟨by repeat ((with_reducible exact HB.out))⟩⟩
 case rest =>
  clear HC9
  obtain ⟨kq, x11_8, rfl, HA, HJ8, BK299, BK300, BK301, HB⟩ := hcut
  cases kq with
  | zero => exact absurd HA.out (by simp [formelaw14_ValueMatchesReference.j0])
  | succ kj8 =>
   have H := HA.out
   clear HA
   simp only [formelaw14_ValueMatchesReference.j0] at H
   replace H := Option.bind_eq_some_iff.mp H
   obtain ⟨⟨t309, t312⟩, A380, H⟩ := H
   replace H : ((formeref14_Uses.f kj8 a0_0 a0_1 l0_2).bind fun bt313 => (if x11_8 = true then ((formeref02_SameInts.f kj8 t309 bt313.1).bind fun t317 => (if t317 = true then (formelaw14_ValueMatchesReference.j1 kj8 a2 (t312 == bt313.2) a0_0 a0_1 l0_2 a3_0 a3_1 a3_2 a3_3 a3_4 a3_5 a3_6 a3_7 a4_0 a4_1) else (formelaw14_ValueMatchesReference.j1 kj8 a2 false a0_0 a0_1 l0_2 a3_0 a3_1 a3_2 a3_3 a3_4 a3_5 a3_6 a3_7 a4_0 a4_1))) else (formelaw14_ValueMatchesReference.j1 kj8 a2 false a0_0 a0_1 l0_2 a3_0 a3_1 a3_2 a3_3 a3_4 a3_5 a3_6 a3_7 a4_0 a4_1))) = some r := H
   have A38 := Aside0.mk A380
   clear A380
   replace H := Option.bind_eq_some_iff.mp H
   obtain ⟨⟨t313, t316⟩, A390, H⟩ := H
   replace H : (if x11_8 = true then ((formeref02_SameInts.f kj8 t309 t313).bind fun t317 => (if t317 = true then (formelaw14_ValueMatchesReference.j1 kj8 a2 (t312 == t316) a0_0 a0_1 l0_2 a3_0 a3_1 a3_2 a3_3 a3_4 a3_5 a3_6 a3_7 a4_0 a4_1) else (formelaw14_ValueMatchesReference.j1 kj8 a2 false a0_0 a0_1 l0_2 a3_0 a3_1 a3_2 a3_3 a3_4 a3_5 a3_6 a3_7 a4_0 a4_1))) else (formelaw14_ValueMatchesReference.j1 kj8 a2 false a0_0 a0_1 l0_2 a3_0 a3_1 a3_2 a3_3 a3_4 a3_5 a3_6 a3_7 a4_0 a4_1)) = some r := H
   have A39 := Aside0.mk A390
   clear A390
   have HC40 := Aside0.mk H
   clear H
   have hnb41 := NB299_300.out
   have hnc41 := NB300_299.out
   have hnb42 := NB299_301.out
   have hnc42 := NB301_299.out
   have hcz43_0 : wc.cell? ⟨gb299, 0, none⟩ = some (.int .i64 a0_0) := (blk_cell BK299.out 0).trans rfl
   have hcz43_1 : wc.cell? ⟨gb299, 1, none⟩ = some (.int .i64 a0_1) := (blk_cell BK299.out 1).trans rfl
   have hcz43_2 : wc.cell? ⟨gb299, 2, none⟩ = some (.slice A0_2 l0_2.length c0_2) := (blk_cell BK299.out 2).trans rfl
   have hfz43_0 := blk_frozen BK299.out 0
   have hfz43_1 := blk_frozen BK299.out 1
   have hfz43_2 := blk_frozen BK299.out 2
   go_upto_region 7 with (first | ((with_reducible refine gate_callee (f := 15) rfl ?_); refine goesL_ (some 57) rfl rfl Try.func15 (by kernel_rfl) rfl #[.agg #[.int .i64 a0_0, .int .i64 a0_1, .slice A0_2 l0_2.length c0_2]] rfl (by (try simp only [List.map_toArray, List.map_cons, List.map_nil]); rfl) ?_; (with_reducible refine (value_Uses.calls a0_0 a0_1 _ _ l0_2 t309 t312 _ ?side1 ?side2 A38.out).mono ?_); (case side1 => repeat (exact (Kd.C_below HR0_2.out HB.out))); (case side2 => exact HC0_2.out); rintro e w44 ⟨v310, rfl, ho0, hb⟩; refine ⟨_, rfl, ?_⟩; have HO311 := Aside0.mk (Kd.R_lower ho0 (below_size HB.out)); replace BK299 := Aside0.mk (blk_below BK299.out hb); replace BK300 := Aside0.mk (blk_below BK300.out hb); replace BK301 := Aside0.mk (blk_below BK301.out hb); replace HB := Aside0.mk (below_step HB.out hb); (try clear hb); (try clear ho0); have hcz45_0 : w44.cell? ⟨gb299, 0, none⟩ = some (.int .i64 a0_0) := (blk_cell BK299.out 0).trans rfl; have hcz45_1 : w44.cell? ⟨gb299, 1, none⟩ = some (.int .i64 a0_1) := (blk_cell BK299.out 1).trans rfl; have hcz45_2 : w44.cell? ⟨gb299, 2, none⟩ = some (.slice A0_2 l0_2.length c0_2) := (blk_cell BK299.out 2).trans rfl; have hfz45_0 := blk_frozen BK299.out 0; have hfz45_1 := blk_frozen BK299.out 1; have hfz45_2 := blk_frozen BK299.out 2) | ((with_reducible refine gate_callee (f := 16) rfl ?_); refine goesL_ (some 62) rfl rfl Try.func16 (by kernel_rfl) rfl #[.agg #[.int .i64 a0_0, .int .i64 a0_1, .slice A0_2 l0_2.length c0_2]] rfl (by (try simp only [List.map_toArray, List.map_cons, List.map_nil]); rfl) ?_; (with_reducible refine (formeref14_Uses.calls kj8 a0_0 a0_1 _ _ l0_2 t313 t316 _ ?side1 ?side2 A39.out).mono ?_); (case side1 => repeat (exact (Kd.C_below HR0_2.out HB.out))); (case side2 => exact HC0_2.out); rintro e w46 ⟨v314, rfl, ho0, hb⟩; refine ⟨_, rfl, ?_⟩; have HO315 := Aside0.mk (Kd.R_lower (Kd.R_new' ho0 (Kd.R_lt HO311.out)) (below_size HB.out)); replace HO311 := Aside0.mk (Kd.R_elder' HO311.out (Kd.R_base ho0) hb); replace BK299 := Aside0.mk (blk_below BK299.out hb); replace BK300 := Aside0.mk (blk_below BK300.out hb); replace BK301 := Aside0.mk (blk_below BK301.out hb); replace HB := Aside0.mk (below_step HB.out hb); (try clear hb); (try clear ho0)))
   (try simp only [Act.put, List.setIfInBounds_toArray, List.set_cons_zero, List.set_cons_succ])
   go_cut [11] (fun v11 wc => ∃ (kq : Nat) (x11_39 : Bool), v11 = .bool x11_39 ∧ Aside0 (formelaw14_ValueMatchesReference.j1 kq a2 x11_39 a0_0 a0_1 l0_2 a3_0 a3_1 a3_2 a3_3 a3_4 a3_5 a3_6 a3_7 a4_0 a4_1 = some r) ∧ Aside0 (kq ≤ kj8) ∧ Aside0 (wc.heap[gb299]? = some (.cells #[.int .i64 a0_0, .int .i64 a0_1, (.slice A0_2 l0_2.length c0_2)] 24 (0, 0))) ∧ Aside0 (wc.heap[gb300]? = some (.cells #[.int .i64 a3_0, .int .i64 a3_1, .int .i64 a3_2, .int .i64 a3_3, .int .i64 a3_4, .int .i64 a3_5, .int .i64 a3_6, .int .i64 a3_7] 25 (0, 0))) ∧ Aside0 (wc.heap[gb301]? = some (.cells #[.int .i64 a4_0, .int .i64 a4_1] 27 (0, 0))) ∧ Aside0 (Below w.heap.size w wc))
   case first =>
    have H := HC40.out
    clear HC40
    by_cases c47 : x11_8 = true
    · subst c47
      have H1 : ((formeref02_SameInts.f kj8 t309 t313).bind fun t317 => (if t317 = true then (formelaw14_ValueMatchesReference.j1 kj8 a2 (t312 == t316) a0_0 a0_1 l0_2 a3_0 a3_1 a3_2 a3_3 a3_4 a3_5 a3_6 a3_7 a4_0 a4_1) else (formelaw14_ValueMatchesReference.j1 kj8 a2 false a0_0 a0_1 l0_2 a3_0 a3_1 a3_2 a3_3 a3_4 a3_5 a3_6 a3_7 a4_0 a4_1))) = some r := by rw [if_pos rfl] at H; exact H
      clear H
      have H := H1
      clear H1
      replace H := Option.bind_eq_some_iff.mp H
      obtain ⟨t317, A480, H⟩ := H
      replace H : (if t317 = true then (formelaw14_ValueMatchesReference.j1 kj8 a2 (t312 == t316) a0_0 a0_1 l0_2 a3_0 a3_1 a3_2 a3_3 a3_4 a3_5 a3_6 a3_7 a4_0 a4_1) else (formelaw14_ValueMatchesReference.j1 kj8 a2 false a0_0 a0_1 l0_2 a3_0 a3_1 a3_2 a3_3 a3_4 a3_5 a3_6 a3_7 a4_0 a4_1)) = some r := H
      have A48 := Aside0.mk A480
      clear A480
      by_cases c49 : t317 = true
      · subst c49
        have H1 : (formelaw14_ValueMatchesReference.j1 kj8 a2 (t312 == t316) a0_0 a0_1 l0_2 a3_0 a3_1 a3_2 a3_3 a3_4 a3_5 a3_6 a3_7 a4_0 a4_1) = some r := by rw [if_pos rfl] at H; exact H
        clear H
        have H := H1
        clear H1
        have H' := Aside0.mk H
        clear H
        obtain ⟨Ao50, co50, eo50⟩ := Kd.R_slice HO311.out
        subst eo50
        obtain ⟨Ao51, co51, eo51⟩ := Kd.R_slice HO315.out
        subst eo51
        go_wp2_with ((go_at_call 17; (with_reducible refine (formeref02_SameInts.calls kj8 _ _ t309 _ _ t313 true _ ?side1 ?side2 ?side3 ?side4 A48.out).mono ?_); (case side1 => repeat (exact (Kd.R_reads' HO311.out).2.2)); (case side2 => exact (Kd.R_reads' HO311.out).2.1); (case side3 => repeat (exact (Kd.R_reads' HO315.out).2.2)); (case side4 => exact (Kd.R_reads' HO315.out).2.1); rintro e w' ⟨rfl, ⟨nd, rfl⟩⟩))
        go_meet
        case rel => exact ⟨_, ((t312 == t316)), (by rfl), H', ⟨by have := HJ8.out; omega⟩, ⟨by (with_reducible repeat (refine blk_drewN ?_ _)); exact BK299.out⟩, ⟨by (with_reducible repeat (refine blk_drewN ?_ _)); exact BK300.out⟩, ⟨by (with_reducible repeat (refine blk_drewN ?_ _)); exact BK301.out⟩, ⟨by repeat ((with_reducible first | exact HB.out | apply pw_below_drewN))⟩⟩
      · replace c49 := Bool.eq_false_iff.mpr c49
        subst c49
        have H1 : (formelaw14_ValueMatchesReference.j1 kj8 a2 false a0_0 a0_1 l0_2 a3_0 a3_1 a3_2 a3_3 a3_4 a3_5 a3_6 a3_7 a4_0 a4_1) = some r := by rw [if_neg (show ¬ (false = true) by decide)] at H; exact H
        clear H
        have H := H1
        clear H1
        have H' := Aside0.mk H
        clear H
        obtain ⟨Ao52, co52, eo52⟩ := Kd.R_slice HO311.out
        subst eo52
        obtain ⟨Ao53, co53, eo53⟩ := Kd.R_slice HO315.out
        subst eo53
        go_wp2_with ((go_at_call 17; (with_reducible refine (formeref02_SameInts.calls kj8 _ _ t309 _ _ t313 false _ ?side1 ?side2 ?side3 ?side4 A48.out).mono ?_); (case side1 => repeat (exact (Kd.R_reads' HO311.out).2.2)); (case side2 => exact (Kd.R_reads' HO311.out).2.1); (case side3 => repeat (exact (Kd.R_reads' HO315.out).2.2)); (case side4 => exact (Kd.R_reads' HO315.out).2.1); rintro e w' ⟨rfl, ⟨nd, rfl⟩⟩))
        go_meet
        case rel => exact ⟨_, (false), (by rfl), H', ⟨by have := HJ8.out; omega⟩, ⟨by (with_reducible repeat (refine blk_drewN ?_ _)); exact BK299.out⟩, ⟨by (with_reducible repeat (refine blk_drewN ?_ _)); exact BK300.out⟩, ⟨by (with_reducible repeat (refine blk_drewN ?_ _)); exact BK301.out⟩, ⟨by repeat ((with_reducible first | exact HB.out | apply pw_below_drewN))⟩⟩
    · replace c47 := Bool.eq_false_iff.mpr c47
      subst c47
      have H1 : (formelaw14_ValueMatchesReference.j1 kj8 a2 false a0_0 a0_1 l0_2 a3_0 a3_1 a3_2 a3_3 a3_4 a3_5 a3_6 a3_7 a4_0 a4_1) = some r := by rw [if_neg (show ¬ (false = true) by decide)] at H; exact H
      clear H
      have H := H1
      clear H1
      have H' := Aside0.mk H
      clear H
      go_wp2
      go_meet
      case rel => exact ⟨_, (false), (by rfl), H', ⟨by have := HJ8.out; omega⟩, ⟨by (with_reducible repeat (fail)); exact BK299.out⟩, ⟨by (with_reducible repeat (fail)); exact BK300.out⟩, ⟨by (with_reducible repeat (fail)); exact BK301.out⟩, ⟨by repeat ((with_reducible exact HB.out))⟩⟩
   case rest =>
    clear HC40
    try clear hcz43_0
    try clear hcz43_1
    try clear hcz43_2
    try clear hcz45_0
    try clear hcz45_1
    try clear hcz45_2
    try clear hfz43_0
    try clear hfz43_1
    try clear hfz43_2
    try clear hfz45_0
    try clear hfz45_1
    try clear hfz45_2
    obtain ⟨kq, x11_39, rfl, HA, HJ39, BK299, BK300, BK301, HB⟩ := hcut
    cases kq with
    | zero => exact absurd HA.out (by simp [formelaw14_ValueMatchesReference.j1])
    | succ kj39 =>
     have H := HA.out
     clear HA
     simp only [formelaw14_ValueMatchesReference.j1] at H
     replace H := Option.bind_eq_some_iff.mp H
     obtain ⟨t318, A540, H⟩ := H
     replace H : (if t318 = true then ((value_Curve.f kj39 a0_0 a0_1 l0_2 a4_0 a4_1 a2 a3_0 a3_1 a3_2 a3_3 a3_4 a3_5 a3_6 a3_7).bind fun bt319 => ((formeref14_Curve.f kj39 a0_0 a0_1 l0_2 a4_0 a4_1 a2 a3_0 a3_1 a3_2 a3_3 a3_4 a3_5 a3_6 a3_7).bind fun bt323 => (if x11_39 = true then ((formeref02_Same.f kj39 bt319.1 bt323.1).bind fun t327 => (if t327 = true then (some (bt319.2 == bt323.2)) else (some false))) else (some false)))) else (some x11_39)) = some r := H
     have A54 := Aside0.mk A540
     clear A540
     by_cases c55 : t318 = true
     · subst c55
       have H1 : ((value_Curve.f kj39 a0_0 a0_1 l0_2 a4_0 a4_1 a2 a3_0 a3_1 a3_2 a3_3 a3_4 a3_5 a3_6 a3_7).bind fun bt319 => ((formeref14_Curve.f kj39 a0_0 a0_1 l0_2 a4_0 a4_1 a2 a3_0 a3_1 a3_2 a3_3 a3_4 a3_5 a3_6 a3_7).bind fun bt323 => (if x11_39 = true then ((formeref02_Same.f kj39 bt319.1 bt323.1).bind fun t327 => (if t327 = true then (some (bt319.2 == bt323.2)) else (some false))) else (some false)))) = some r := by rw [if_pos rfl] at H; exact H
       clear H
       have H := H1
       clear H1
       replace H := Option.bind_eq_some_iff.mp H
       obtain ⟨⟨t319, t322⟩, A560, H⟩ := H
       replace H : ((formeref14_Curve.f kj39 a0_0 a0_1 l0_2 a4_0 a4_1 a2 a3_0 a3_1 a3_2 a3_3 a3_4 a3_5 a3_6 a3_7).bind fun bt323 => (if x11_39 = true then ((formeref02_Same.f kj39 t319 bt323.1).bind fun t327 => (if t327 = true then (some (t322 == bt323.2)) else (some false))) else (some false))) = some r := H
       have A56 := Aside0.mk A560
       clear A560
       replace H := Option.bind_eq_some_iff.mp H
       obtain ⟨⟨t323, t326⟩, A570, H⟩ := H
       replace H : (if x11_39 = true then ((formeref02_Same.f kj39 t319 t323).bind fun t327 => (if t327 = true then (some (t322 == t326)) else (some false))) else (some false)) = some r := H
       have A57 := Aside0.mk A570
       clear A570
       by_cases c58 : x11_39 = true
       · subst c58
         have H1 : ((formeref02_Same.f kj39 t319 t323).bind fun t327 => (if t327 = true then (some (t322 == t326)) else (some false))) = some r := by rw [if_pos rfl] at H; exact H
         clear H
         have H := H1
         clear H1
         replace H := Option.bind_eq_some_iff.mp H
         obtain ⟨t327, A590, H⟩ := H
         replace H : (if t327 = true then (some (t322 == t326)) else (some false)) = some r := H
         have A59 := Aside0.mk A590
         clear A590
         by_cases c60 : t327 = true
         · subst c60
           have H1 : (some (t322 == t326)) = some r := by rw [if_pos rfl] at H; exact H
           clear H
           have H := H1
           clear H1
           obtain rfl := Option.some.inj H
           have hnb61 := NB301_299.out
           have hnc61 := NB299_301.out
           have hnb62 := NB301_300.out
           have hnc62 := NB300_301.out
           have hcz63_0 : wc.cell? ⟨gb301, 0, none⟩ = some (.int .i64 a4_0) := (blk_cell BK301.out 0).trans rfl
           have hcz63_1 : wc.cell? ⟨gb301, 1, none⟩ = some (.int .i64 a4_1) := (blk_cell BK301.out 1).trans rfl
           have hfz63_0 := blk_frozen BK301.out 0
           have hfz63_1 := blk_frozen BK301.out 1
           go_wp2_with (first | ((with_reducible refine gate_callee (f := 18) rfl ?_); refine goesL_ (some 77) rfl rfl Try.func18 (by kernel_rfl) rfl #[.agg #[.int .i64 a4_0, .int .i64 a4_1]] rfl (by (try simp only [List.map_toArray, List.map_cons, List.map_nil]); rfl) ?_; (with_reducible refine (formeref14_Few.calls a4_0 a4_1 true _ A54.out).mono ?_); rintro e w64 ⟨rfl, hb⟩; refine ⟨_, rfl, ?_⟩; replace BK299 := Aside0.mk (blk_below BK299.out hb); replace BK300 := Aside0.mk (blk_below BK300.out hb); replace BK301 := Aside0.mk (blk_below BK301.out hb); replace HB := Aside0.mk (below_step HB.out hb); (try clear hb); have hnb65 := NB299_300.out; have hnc65 := NB300_299.out; have hcz66_0 : w64.cell? ⟨gb299, 0, none⟩ = some (.int .i64 a0_0) := (blk_cell BK299.out 0).trans rfl; have hcz66_1 : w64.cell? ⟨gb299, 1, none⟩ = some (.int .i64 a0_1) := (blk_cell BK299.out 1).trans rfl; have hcz66_2 : w64.cell? ⟨gb299, 2, none⟩ = some (.slice A0_2 l0_2.length c0_2) := (blk_cell BK299.out 2).trans rfl; have hfz66_0 := blk_frozen BK299.out 0; have hfz66_1 := blk_frozen BK299.out 1; have hfz66_2 := blk_frozen BK299.out 2; have hcz67_0 : w64.cell? ⟨gb301, 0, none⟩ = some (.int .i64 a4_0) := (blk_cell BK301.out 0).trans rfl; have hcz67_1 : w64.cell? ⟨gb301, 1, none⟩ = some (.int .i64 a4_1) := (blk_cell BK301.out 1).trans rfl; have hfz67_0 := blk_frozen BK301.out 0; have hfz67_1 := blk_frozen BK301.out 1; have hcz68_0 : w64.cell? ⟨gb300, 0, none⟩ = some (.int .i64 a3_0) := (blk_cell BK300.out 0).trans rfl; have hcz68_1 : w64.cell? ⟨gb300, 1, none⟩ = some (.int .i64 a3_1) := (blk_cell BK300.out 1).trans rfl; have hcz68_2 : w64.cell? ⟨gb300, 2, none⟩ = some (.int .i64 a3_2) := (blk_cell BK300.out 2).trans rfl; have hcz68_3 : w64.cell? ⟨gb300, 3, none⟩ = some (.int .i64 a3_3) := (blk_cell BK300.out 3).trans rfl; have hcz68_4 : w64.cell? ⟨gb300, 4, none⟩ = some (.int .i64 a3_4) := (blk_cell BK300.out 4).trans rfl; have hcz68_5 : w64.cell? ⟨gb300, 5, none⟩ = some (.int .i64 a3_5) := (blk_cell BK300.out 5).trans rfl; have hcz68_6 : w64.cell? ⟨gb300, 6, none⟩ = some (.int .i64 a3_6) := (blk_cell BK300.out 6).trans rfl; have hcz68_7 : w64.cell? ⟨gb300, 7, none⟩ = some (.int .i64 a3_7) := (blk_cell BK300.out 7).trans rfl; have hfz68_0 := blk_frozen BK300.out 0; have hfz68_1 := blk_frozen BK300.out 1; have hfz68_2 := blk_frozen BK300.out 2; have hfz68_3 := blk_frozen BK300.out 3; have hfz68_4 := blk_frozen BK300.out 4; have hfz68_5 := blk_frozen BK300.out 5; have hfz68_6 := blk_frozen BK300.out 6; have hfz68_7 := blk_frozen BK300.out 7) | ((with_reducible refine gate_callee (f := 19) rfl ?_); refine goesL_ (some 85) rfl rfl Try.func19 (by kernel_rfl) rfl #[.agg #[.int .i64 a0_0, .int .i64 a0_1, .slice A0_2 l0_2.length c0_2], .agg #[.int .i64 a4_0, .int .i64 a4_1], .int .i64 a2, .agg #[.int .i64 a3_0, .int .i64 a3_1, .int .i64 a3_2, .int .i64 a3_3, .int .i64 a3_4, .int .i64 a3_5, .int .i64 a3_6, .int .i64 a3_7]] rfl (by (try simp only [List.map_toArray, List.map_cons, List.map_nil]); rfl) ?_; (with_reducible refine (value_Curve.calls kj39 a0_0 a0_1 _ _ l0_2 a4_0 a4_1 a2 a3_0 a3_1 a3_2 a3_3 a3_4 a3_5 a3_6 a3_7 t319 t322 _ ?side1 ?side2 A56.out).mono ?_); (case side1 => repeat (exact (Kd.C_below HR0_2.out HB.out))); (case side2 => exact HC0_2.out); rintro e w69 ⟨v320, rfl, ho0, hb⟩; refine ⟨_, rfl, ?_⟩; have HO321 := Aside0.mk (Kd.R_lower ho0 (below_size HB.out)); replace BK299 := Aside0.mk (blk_below BK299.out hb); replace BK300 := Aside0.mk (blk_below BK300.out hb); replace BK301 := Aside0.mk (blk_below BK301.out hb); replace HB := Aside0.mk (below_step HB.out hb); (try clear hb); (try clear ho0); have hcz70_0 : w69.cell? ⟨gb299, 0, none⟩ = some (.int .i64 a0_0) := (blk_cell BK299.out 0).trans rfl; have hcz70_1 : w69.cell? ⟨gb299, 1, none⟩ = some (.int .i64 a0_1) := (blk_cell BK299.out 1).trans rfl; have hcz70_2 : w69.cell? ⟨gb299, 2, none⟩ = some (.slice A0_2 l0_2.length c0_2) := (blk_cell BK299.out 2).trans rfl; have hfz70_0 := blk_frozen BK299.out 0; have hfz70_1 := blk_frozen BK299.out 1; have hfz70_2 := blk_frozen BK299.out 2; have hcz71_0 : w69.cell? ⟨gb301, 0, none⟩ = some (.int .i64 a4_0) := (blk_cell BK301.out 0).trans rfl; have hcz71_1 : w69.cell? ⟨gb301, 1, none⟩ = some (.int .i64 a4_1) := (blk_cell BK301.out 1).trans rfl; have hfz71_0 := blk_frozen BK301.out 0; have hfz71_1 := blk_frozen BK301.out 1; have hcz72_0 : w69.cell? ⟨gb300, 0, none⟩ = some (.int .i64 a3_0) := (blk_cell BK300.out 0).trans rfl; have hcz72_1 : w69.cell? ⟨gb300, 1, none⟩ = some (.int .i64 a3_1) := (blk_cell BK300.out 1).trans rfl; have hcz72_2 : w69.cell? ⟨gb300, 2, none⟩ = some (.int .i64 a3_2) := (blk_cell BK300.out 2).trans rfl; have hcz72_3 : w69.cell? ⟨gb300, 3, none⟩ = some (.int .i64 a3_3) := (blk_cell BK300.out 3).trans rfl; have hcz72_4 : w69.cell? ⟨gb300, 4, none⟩ = some (.int .i64 a3_4) := (blk_cell BK300.out 4).trans rfl; have hcz72_5 : w69.cell? ⟨gb300, 5, none⟩ = some (.int .i64 a3_5) := (blk_cell BK300.out 5).trans rfl; have hcz72_6 : w69.cell? ⟨gb300, 6, none⟩ = some (.int .i64 a3_6) := (blk_cell BK300.out 6).trans rfl; have hcz72_7 : w69.cell? ⟨gb300, 7, none⟩ = some (.int .i64 a3_7) := (blk_cell BK300.out 7).trans rfl; have hfz72_0 := blk_frozen BK300.out 0; have hfz72_1 := blk_frozen BK300.out 1; have hfz72_2 := blk_frozen BK300.out 2; have hfz72_3 := blk_frozen BK300.out 3; have hfz72_4 := blk_frozen BK300.out 4; have hfz72_5 := blk_frozen BK300.out 5; have hfz72_6 := blk_frozen BK300.out 6; have hfz72_7 := blk_frozen BK300.out 7) | ((with_reducible refine gate_callee (f := 20) rfl ?_); refine goesL_ (some 93) rfl rfl Try.func20 (by kernel_rfl) rfl #[.agg #[.int .i64 a0_0, .int .i64 a0_1, .slice A0_2 l0_2.length c0_2], .agg #[.int .i64 a4_0, .int .i64 a4_1], .int .i64 a2, .agg #[.int .i64 a3_0, .int .i64 a3_1, .int .i64 a3_2, .int .i64 a3_3, .int .i64 a3_4, .int .i64 a3_5, .int .i64 a3_6, .int .i64 a3_7]] rfl (by (try simp only [List.map_toArray, List.map_cons, List.map_nil]); rfl) ?_; (with_reducible refine (formeref14_Curve.calls kj39 a0_0 a0_1 _ _ l0_2 a4_0 a4_1 a2 a3_0 a3_1 a3_2 a3_3 a3_4 a3_5 a3_6 a3_7 t323 t326 _ ?side1 ?side2 A57.out).mono ?_); (case side1 => repeat (exact (Kd.C_below HR0_2.out HB.out))); (case side2 => exact HC0_2.out); rintro e w73 ⟨v324, rfl, ho0, hb⟩; refine ⟨_, rfl, ?_⟩; have HO325 := Aside0.mk (Kd.R_lower (Kd.R_new' ho0 (Kd.R_lt HO321.out)) (below_size HB.out)); replace HO321 := Aside0.mk (Kd.R_elder' HO321.out (Kd.R_base ho0) hb); replace BK299 := Aside0.mk (blk_below BK299.out hb); replace BK300 := Aside0.mk (blk_below BK300.out hb); replace BK301 := Aside0.mk (blk_below BK301.out hb); replace HB := Aside0.mk (below_step HB.out hb); (try clear hb); (try clear ho0); obtain ⟨Ao74, co74, eo74⟩ := Kd.R_slice HO321.out; subst eo74; obtain ⟨Ao75, co75, eo75⟩ := Kd.R_slice HO325.out; subst eo75) | (go_at_call 21; (with_reducible refine (formeref02_Same.calls kj39 _ _ t319 _ _ t323 true _ ?side1 ?side2 ?side3 ?side4 A59.out).mono ?_); (case side1 => repeat (exact (Kd.R_reads' HO321.out).2.2)); (case side2 => exact (Kd.R_reads' HO321.out).2.1); (case side3 => repeat (exact (Kd.R_reads' HO325.out).2.2)); (case side4 => exact (Kd.R_reads' HO325.out).2.1); rintro e w' ⟨rfl, ⟨nd, rfl⟩⟩))
           go_ret
           exact ⟨by rfl, by repeat ((with_reducible first | exact HB.out | apply pw_below_drewN))⟩
         · replace c60 := Bool.eq_false_iff.mpr c60
           subst c60
           have H1 : (some false) = some r := by rw [if_neg (show ¬ (false = true) by decide)] at H; exact H
           clear H
           have H := H1
           clear H1
           obtain rfl := Option.some.inj H
           have hnb76 := NB301_299.out
           have hnc76 := NB299_301.out
           have hnb77 := NB301_300.out
           have hnc77 := NB300_301.out
           have hcz78_0 : wc.cell? ⟨gb301, 0, none⟩ = some (.int .i64 a4_0) := (blk_cell BK301.out 0).trans rfl
           have hcz78_1 : wc.cell? ⟨gb301, 1, none⟩ = some (.int .i64 a4_1) := (blk_cell BK301.out 1).trans rfl
           have hfz78_0 := blk_frozen BK301.out 0
           have hfz78_1 := blk_frozen BK301.out 1
           go_wp2_with (first | ((with_reducible refine gate_callee (f := 18) rfl ?_); refine goesL_ (some 77) rfl rfl Try.func18 (by kernel_rfl) rfl #[.agg #[.int .i64 a4_0, .int .i64 a4_1]] rfl (by (try simp only [List.map_toArray, List.map_cons, List.map_nil]); rfl) ?_; (with_reducible refine (formeref14_Few.calls a4_0 a4_1 true _ A54.out).mono ?_); rintro e w79 ⟨rfl, hb⟩; refine ⟨_, rfl, ?_⟩; replace BK299 := Aside0.mk (blk_below BK299.out hb); replace BK300 := Aside0.mk (blk_below BK300.out hb); replace BK301 := Aside0.mk (blk_below BK301.out hb); replace HB := Aside0.mk (below_step HB.out hb); (try clear hb); have hnb80 := NB299_300.out; have hnc80 := NB300_299.out; have hcz81_0 : w79.cell? ⟨gb299, 0, none⟩ = some (.int .i64 a0_0) := (blk_cell BK299.out 0).trans rfl; have hcz81_1 : w79.cell? ⟨gb299, 1, none⟩ = some (.int .i64 a0_1) := (blk_cell BK299.out 1).trans rfl; have hcz81_2 : w79.cell? ⟨gb299, 2, none⟩ = some (.slice A0_2 l0_2.length c0_2) := (blk_cell BK299.out 2).trans rfl; have hfz81_0 := blk_frozen BK299.out 0; have hfz81_1 := blk_frozen BK299.out 1; have hfz81_2 := blk_frozen BK299.out 2; have hcz82_0 : w79.cell? ⟨gb301, 0, none⟩ = some (.int .i64 a4_0) := (blk_cell BK301.out 0).trans rfl; have hcz82_1 : w79.cell? ⟨gb301, 1, none⟩ = some (.int .i64 a4_1) := (blk_cell BK301.out 1).trans rfl; have hfz82_0 := blk_frozen BK301.out 0; have hfz82_1 := blk_frozen BK301.out 1; have hcz83_0 : w79.cell? ⟨gb300, 0, none⟩ = some (.int .i64 a3_0) := (blk_cell BK300.out 0).trans rfl; have hcz83_1 : w79.cell? ⟨gb300, 1, none⟩ = some (.int .i64 a3_1) := (blk_cell BK300.out 1).trans rfl; have hcz83_2 : w79.cell? ⟨gb300, 2, none⟩ = some (.int .i64 a3_2) := (blk_cell BK300.out 2).trans rfl; have hcz83_3 : w79.cell? ⟨gb300, 3, none⟩ = some (.int .i64 a3_3) := (blk_cell BK300.out 3).trans rfl; have hcz83_4 : w79.cell? ⟨gb300, 4, none⟩ = some (.int .i64 a3_4) := (blk_cell BK300.out 4).trans rfl; have hcz83_5 : w79.cell? ⟨gb300, 5, none⟩ = some (.int .i64 a3_5) := (blk_cell BK300.out 5).trans rfl; have hcz83_6 : w79.cell? ⟨gb300, 6, none⟩ = some (.int .i64 a3_6) := (blk_cell BK300.out 6).trans rfl; have hcz83_7 : w79.cell? ⟨gb300, 7, none⟩ = some (.int .i64 a3_7) := (blk_cell BK300.out 7).trans rfl; have hfz83_0 := blk_frozen BK300.out 0; have hfz83_1 := blk_frozen BK300.out 1; have hfz83_2 := blk_frozen BK300.out 2; have hfz83_3 := blk_frozen BK300.out 3; have hfz83_4 := blk_frozen BK300.out 4; have hfz83_5 := blk_frozen BK300.out 5; have hfz83_6 := blk_frozen BK300.out 6; have hfz83_7 := blk_frozen BK300.out 7) | ((with_reducible refine gate_callee (f := 19) rfl ?_); refine goesL_ (some 85) rfl rfl Try.func19 (by kernel_rfl) rfl #[.agg #[.int .i64 a0_0, .int .i64 a0_1, .slice A0_2 l0_2.length c0_2], .agg #[.int .i64 a4_0, .int .i64 a4_1], .int .i64 a2, .agg #[.int .i64 a3_0, .int .i64 a3_1, .int .i64 a3_2, .int .i64 a3_3, .int .i64 a3_4, .int .i64 a3_5, .int .i64 a3_6, .int .i64 a3_7]] rfl (by (try simp only [List.map_toArray, List.map_cons, List.map_nil]); rfl) ?_; (with_reducible refine (value_Curve.calls kj39 a0_0 a0_1 _ _ l0_2 a4_0 a4_1 a2 a3_0 a3_1 a3_2 a3_3 a3_4 a3_5 a3_6 a3_7 t319 t322 _ ?side1 ?side2 A56.out).mono ?_); (case side1 => repeat (exact (Kd.C_below HR0_2.out HB.out))); (case side2 => exact HC0_2.out); rintro e w84 ⟨v320, rfl, ho0, hb⟩; refine ⟨_, rfl, ?_⟩; have HO321 := Aside0.mk (Kd.R_lower ho0 (below_size HB.out)); replace BK299 := Aside0.mk (blk_below BK299.out hb); replace BK300 := Aside0.mk (blk_below BK300.out hb); replace BK301 := Aside0.mk (blk_below BK301.out hb); replace HB := Aside0.mk (below_step HB.out hb); (try clear hb); (try clear ho0); have hcz85_0 : w84.cell? ⟨gb299, 0, none⟩ = some (.int .i64 a0_0) := (blk_cell BK299.out 0).trans rfl; have hcz85_1 : w84.cell? ⟨gb299, 1, none⟩ = some (.int .i64 a0_1) := (blk_cell BK299.out 1).trans rfl; have hcz85_2 : w84.cell? ⟨gb299, 2, none⟩ = some (.slice A0_2 l0_2.length c0_2) := (blk_cell BK299.out 2).trans rfl; have hfz85_0 := blk_frozen BK299.out 0; have hfz85_1 := blk_frozen BK299.out 1; have hfz85_2 := blk_frozen BK299.out 2; have hcz86_0 : w84.cell? ⟨gb301, 0, none⟩ = some (.int .i64 a4_0) := (blk_cell BK301.out 0).trans rfl; have hcz86_1 : w84.cell? ⟨gb301, 1, none⟩ = some (.int .i64 a4_1) := (blk_cell BK301.out 1).trans rfl; have hfz86_0 := blk_frozen BK301.out 0; have hfz86_1 := blk_frozen BK301.out 1; have hcz87_0 : w84.cell? ⟨gb300, 0, none⟩ = some (.int .i64 a3_0) := (blk_cell BK300.out 0).trans rfl; have hcz87_1 : w84.cell? ⟨gb300, 1, none⟩ = some (.int .i64 a3_1) := (blk_cell BK300.out 1).trans rfl; have hcz87_2 : w84.cell? ⟨gb300, 2, none⟩ = some (.int .i64 a3_2) := (blk_cell BK300.out 2).trans rfl; have hcz87_3 : w84.cell? ⟨gb300, 3, none⟩ = some (.int .i64 a3_3) := (blk_cell BK300.out 3).trans rfl; have hcz87_4 : w84.cell? ⟨gb300, 4, none⟩ = some (.int .i64 a3_4) := (blk_cell BK300.out 4).trans rfl; have hcz87_5 : w84.cell? ⟨gb300, 5, none⟩ = some (.int .i64 a3_5) := (blk_cell BK300.out 5).trans rfl; have hcz87_6 : w84.cell? ⟨gb300, 6, none⟩ = some (.int .i64 a3_6) := (blk_cell BK300.out 6).trans rfl; have hcz87_7 : w84.cell? ⟨gb300, 7, none⟩ = some (.int .i64 a3_7) := (blk_cell BK300.out 7).trans rfl; have hfz87_0 := blk_frozen BK300.out 0; have hfz87_1 := blk_frozen BK300.out 1; have hfz87_2 := blk_frozen BK300.out 2; have hfz87_3 := blk_frozen BK300.out 3; have hfz87_4 := blk_frozen BK300.out 4; have hfz87_5 := blk_frozen BK300.out 5; have hfz87_6 := blk_frozen BK300.out 6; have hfz87_7 := blk_frozen BK300.out 7) | ((with_reducible refine gate_callee (f := 20) rfl ?_); refine goesL_ (some 93) rfl rfl Try.func20 (by kernel_rfl) rfl #[.agg #[.int .i64 a0_0, .int .i64 a0_1, .slice A0_2 l0_2.length c0_2], .agg #[.int .i64 a4_0, .int .i64 a4_1], .int .i64 a2, .agg #[.int .i64 a3_0, .int .i64 a3_1, .int .i64 a3_2, .int .i64 a3_3, .int .i64 a3_4, .int .i64 a3_5, .int .i64 a3_6, .int .i64 a3_7]] rfl (by (try simp only [List.map_toArray, List.map_cons, List.map_nil]); rfl) ?_; (with_reducible refine (formeref14_Curve.calls kj39 a0_0 a0_1 _ _ l0_2 a4_0 a4_1 a2 a3_0 a3_1 a3_2 a3_3 a3_4 a3_5 a3_6 a3_7 t323 t326 _ ?side1 ?side2 A57.out).mono ?_); (case side1 => repeat (exact (Kd.C_below HR0_2.out HB.out))); (case side2 => exact HC0_2.out); rintro e w88 ⟨v324, rfl, ho0, hb⟩; refine ⟨_, rfl, ?_⟩; have HO325 := Aside0.mk (Kd.R_lower (Kd.R_new' ho0 (Kd.R_lt HO321.out)) (below_size HB.out)); replace HO321 := Aside0.mk (Kd.R_elder' HO321.out (Kd.R_base ho0) hb); replace BK299 := Aside0.mk (blk_below BK299.out hb); replace BK300 := Aside0.mk (blk_below BK300.out hb); replace BK301 := Aside0.mk (blk_below BK301.out hb); replace HB := Aside0.mk (below_step HB.out hb); (try clear hb); (try clear ho0); obtain ⟨Ao89, co89, eo89⟩ := Kd.R_slice HO321.out; subst eo89; obtain ⟨Ao90, co90, eo90⟩ := Kd.R_slice HO325.out; subst eo90) | (go_at_call 21; (with_reducible refine (formeref02_Same.calls kj39 _ _ t319 _ _ t323 false _ ?side1 ?side2 ?side3 ?side4 A59.out).mono ?_); (case side1 => repeat (exact (Kd.R_reads' HO321.out).2.2)); (case side2 => exact (Kd.R_reads' HO321.out).2.1); (case side3 => repeat (exact (Kd.R_reads' HO325.out).2.2)); (case side4 => exact (Kd.R_reads' HO325.out).2.1); rintro e w' ⟨rfl, ⟨nd, rfl⟩⟩))
           go_ret
           exact ⟨by rfl, by repeat ((with_reducible first | exact HB.out | apply pw_below_drewN))⟩
       · replace c58 := Bool.eq_false_iff.mpr c58
         subst c58
         have H1 : (some false) = some r := by rw [if_neg (show ¬ (false = true) by decide)] at H; exact H
         clear H
         have H := H1
         clear H1
         obtain rfl := Option.some.inj H
         have hnb91 := NB301_299.out
         have hnc91 := NB299_301.out
         have hnb92 := NB301_300.out
         have hnc92 := NB300_301.out
         have hcz93_0 : wc.cell? ⟨gb301, 0, none⟩ = some (.int .i64 a4_0) := (blk_cell BK301.out 0).trans rfl
         have hcz93_1 : wc.cell? ⟨gb301, 1, none⟩ = some (.int .i64 a4_1) := (blk_cell BK301.out 1).trans rfl
         have hfz93_0 := blk_frozen BK301.out 0
         have hfz93_1 := blk_frozen BK301.out 1
         go_wp2_with (first | ((with_reducible refine gate_callee (f := 18) rfl ?_); refine goesL_ (some 77) rfl rfl Try.func18 (by kernel_rfl) rfl #[.agg #[.int .i64 a4_0, .int .i64 a4_1]] rfl (by (try simp only [List.map_toArray, List.map_cons, List.map_nil]); rfl) ?_; (with_reducible refine (formeref14_Few.calls a4_0 a4_1 true _ A54.out).mono ?_); rintro e w94 ⟨rfl, hb⟩; refine ⟨_, rfl, ?_⟩; replace BK299 := Aside0.mk (blk_below BK299.out hb); replace BK300 := Aside0.mk (blk_below BK300.out hb); replace BK301 := Aside0.mk (blk_below BK301.out hb); replace HB := Aside0.mk (below_step HB.out hb); (try clear hb); have hnb95 := NB299_300.out; have hnc95 := NB300_299.out; have hcz96_0 : w94.cell? ⟨gb299, 0, none⟩ = some (.int .i64 a0_0) := (blk_cell BK299.out 0).trans rfl; have hcz96_1 : w94.cell? ⟨gb299, 1, none⟩ = some (.int .i64 a0_1) := (blk_cell BK299.out 1).trans rfl; have hcz96_2 : w94.cell? ⟨gb299, 2, none⟩ = some (.slice A0_2 l0_2.length c0_2) := (blk_cell BK299.out 2).trans rfl; have hfz96_0 := blk_frozen BK299.out 0; have hfz96_1 := blk_frozen BK299.out 1; have hfz96_2 := blk_frozen BK299.out 2; have hcz97_0 : w94.cell? ⟨gb301, 0, none⟩ = some (.int .i64 a4_0) := (blk_cell BK301.out 0).trans rfl; have hcz97_1 : w94.cell? ⟨gb301, 1, none⟩ = some (.int .i64 a4_1) := (blk_cell BK301.out 1).trans rfl; have hfz97_0 := blk_frozen BK301.out 0; have hfz97_1 := blk_frozen BK301.out 1; have hcz98_0 : w94.cell? ⟨gb300, 0, none⟩ = some (.int .i64 a3_0) := (blk_cell BK300.out 0).trans rfl; have hcz98_1 : w94.cell? ⟨gb300, 1, none⟩ = some (.int .i64 a3_1) := (blk_cell BK300.out 1).trans rfl; have hcz98_2 : w94.cell? ⟨gb300, 2, none⟩ = some (.int .i64 a3_2) := (blk_cell BK300.out 2).trans rfl; have hcz98_3 : w94.cell? ⟨gb300, 3, none⟩ = some (.int .i64 a3_3) := (blk_cell BK300.out 3).trans rfl; have hcz98_4 : w94.cell? ⟨gb300, 4, none⟩ = some (.int .i64 a3_4) := (blk_cell BK300.out 4).trans rfl; have hcz98_5 : w94.cell? ⟨gb300, 5, none⟩ = some (.int .i64 a3_5) := (blk_cell BK300.out 5).trans rfl; have hcz98_6 : w94.cell? ⟨gb300, 6, none⟩ = some (.int .i64 a3_6) := (blk_cell BK300.out 6).trans rfl; have hcz98_7 : w94.cell? ⟨gb300, 7, none⟩ = some (.int .i64 a3_7) := (blk_cell BK300.out 7).trans rfl; have hfz98_0 := blk_frozen BK300.out 0; have hfz98_1 := blk_frozen BK300.out 1; have hfz98_2 := blk_frozen BK300.out 2; have hfz98_3 := blk_frozen BK300.out 3; have hfz98_4 := blk_frozen BK300.out 4; have hfz98_5 := blk_frozen BK300.out 5; have hfz98_6 := blk_frozen BK300.out 6; have hfz98_7 := blk_frozen BK300.out 7) | ((with_reducible refine gate_callee (f := 19) rfl ?_); refine goesL_ (some 85) rfl rfl Try.func19 (by kernel_rfl) rfl #[.agg #[.int .i64 a0_0, .int .i64 a0_1, .slice A0_2 l0_2.length c0_2], .agg #[.int .i64 a4_0, .int .i64 a4_1], .int .i64 a2, .agg #[.int .i64 a3_0, .int .i64 a3_1, .int .i64 a3_2, .int .i64 a3_3, .int .i64 a3_4, .int .i64 a3_5, .int .i64 a3_6, .int .i64 a3_7]] rfl (by (try simp only [List.map_toArray, List.map_cons, List.map_nil]); rfl) ?_; (with_reducible refine (value_Curve.calls kj39 a0_0 a0_1 _ _ l0_2 a4_0 a4_1 a2 a3_0 a3_1 a3_2 a3_3 a3_4 a3_5 a3_6 a3_7 t319 t322 _ ?side1 ?side2 A56.out).mono ?_); (case side1 => repeat (exact (Kd.C_below HR0_2.out HB.out))); (case side2 => exact HC0_2.out); rintro e w99 ⟨v320, rfl, ho0, hb⟩; refine ⟨_, rfl, ?_⟩; have HO321 := Aside0.mk (Kd.R_lower ho0 (below_size HB.out)); replace BK299 := Aside0.mk (blk_below BK299.out hb); replace BK300 := Aside0.mk (blk_below BK300.out hb); replace BK301 := Aside0.mk (blk_below BK301.out hb); replace HB := Aside0.mk (below_step HB.out hb); (try clear hb); (try clear ho0); have hcz100_0 : w99.cell? ⟨gb299, 0, none⟩ = some (.int .i64 a0_0) := (blk_cell BK299.out 0).trans rfl; have hcz100_1 : w99.cell? ⟨gb299, 1, none⟩ = some (.int .i64 a0_1) := (blk_cell BK299.out 1).trans rfl; have hcz100_2 : w99.cell? ⟨gb299, 2, none⟩ = some (.slice A0_2 l0_2.length c0_2) := (blk_cell BK299.out 2).trans rfl; have hfz100_0 := blk_frozen BK299.out 0; have hfz100_1 := blk_frozen BK299.out 1; have hfz100_2 := blk_frozen BK299.out 2; have hcz101_0 : w99.cell? ⟨gb301, 0, none⟩ = some (.int .i64 a4_0) := (blk_cell BK301.out 0).trans rfl; have hcz101_1 : w99.cell? ⟨gb301, 1, none⟩ = some (.int .i64 a4_1) := (blk_cell BK301.out 1).trans rfl; have hfz101_0 := blk_frozen BK301.out 0; have hfz101_1 := blk_frozen BK301.out 1; have hcz102_0 : w99.cell? ⟨gb300, 0, none⟩ = some (.int .i64 a3_0) := (blk_cell BK300.out 0).trans rfl; have hcz102_1 : w99.cell? ⟨gb300, 1, none⟩ = some (.int .i64 a3_1) := (blk_cell BK300.out 1).trans rfl; have hcz102_2 : w99.cell? ⟨gb300, 2, none⟩ = some (.int .i64 a3_2) := (blk_cell BK300.out 2).trans rfl; have hcz102_3 : w99.cell? ⟨gb300, 3, none⟩ = some (.int .i64 a3_3) := (blk_cell BK300.out 3).trans rfl; have hcz102_4 : w99.cell? ⟨gb300, 4, none⟩ = some (.int .i64 a3_4) := (blk_cell BK300.out 4).trans rfl; have hcz102_5 : w99.cell? ⟨gb300, 5, none⟩ = some (.int .i64 a3_5) := (blk_cell BK300.out 5).trans rfl; have hcz102_6 : w99.cell? ⟨gb300, 6, none⟩ = some (.int .i64 a3_6) := (blk_cell BK300.out 6).trans rfl; have hcz102_7 : w99.cell? ⟨gb300, 7, none⟩ = some (.int .i64 a3_7) := (blk_cell BK300.out 7).trans rfl; have hfz102_0 := blk_frozen BK300.out 0; have hfz102_1 := blk_frozen BK300.out 1; have hfz102_2 := blk_frozen BK300.out 2; have hfz102_3 := blk_frozen BK300.out 3; have hfz102_4 := blk_frozen BK300.out 4; have hfz102_5 := blk_frozen BK300.out 5; have hfz102_6 := blk_frozen BK300.out 6; have hfz102_7 := blk_frozen BK300.out 7) | ((with_reducible refine gate_callee (f := 20) rfl ?_); refine goesL_ (some 93) rfl rfl Try.func20 (by kernel_rfl) rfl #[.agg #[.int .i64 a0_0, .int .i64 a0_1, .slice A0_2 l0_2.length c0_2], .agg #[.int .i64 a4_0, .int .i64 a4_1], .int .i64 a2, .agg #[.int .i64 a3_0, .int .i64 a3_1, .int .i64 a3_2, .int .i64 a3_3, .int .i64 a3_4, .int .i64 a3_5, .int .i64 a3_6, .int .i64 a3_7]] rfl (by (try simp only [List.map_toArray, List.map_cons, List.map_nil]); rfl) ?_; (with_reducible refine (formeref14_Curve.calls kj39 a0_0 a0_1 _ _ l0_2 a4_0 a4_1 a2 a3_0 a3_1 a3_2 a3_3 a3_4 a3_5 a3_6 a3_7 t323 t326 _ ?side1 ?side2 A57.out).mono ?_); (case side1 => repeat (exact (Kd.C_below HR0_2.out HB.out))); (case side2 => exact HC0_2.out); rintro e w103 ⟨v324, rfl, ho0, hb⟩; refine ⟨_, rfl, ?_⟩; have HO325 := Aside0.mk (Kd.R_lower (Kd.R_new' ho0 (Kd.R_lt HO321.out)) (below_size HB.out)); replace HO321 := Aside0.mk (Kd.R_elder' HO321.out (Kd.R_base ho0) hb); replace BK299 := Aside0.mk (blk_below BK299.out hb); replace BK300 := Aside0.mk (blk_below BK300.out hb); replace BK301 := Aside0.mk (blk_below BK301.out hb); replace HB := Aside0.mk (below_step HB.out hb); (try clear hb); (try clear ho0)))
         go_ret
         exact ⟨by rfl, by repeat ((with_reducible exact HB.out))⟩
     · replace c55 := Bool.eq_false_iff.mpr c55
       subst c55
       have H1 : (some x11_39) = some r := by rw [if_neg (show ¬ (false = true) by decide)] at H; exact H
       clear H
       have H := H1
       clear H1
       obtain rfl := Option.some.inj H
       have hnb104 := NB301_299.out
       have hnc104 := NB299_301.out
       have hnb105 := NB301_300.out
       have hnc105 := NB300_301.out
       have hcz106_0 : wc.cell? ⟨gb301, 0, none⟩ = some (.int .i64 a4_0) := (blk_cell BK301.out 0).trans rfl
       have hcz106_1 : wc.cell? ⟨gb301, 1, none⟩ = some (.int .i64 a4_1) := (blk_cell BK301.out 1).trans rfl
       have hfz106_0 := blk_frozen BK301.out 0
       have hfz106_1 := blk_frozen BK301.out 1
       go_wp2_with (((with_reducible refine gate_callee (f := 18) rfl ?_); refine goesL_ (some 77) rfl rfl Try.func18 (by kernel_rfl) rfl #[.agg #[.int .i64 a4_0, .int .i64 a4_1]] rfl (by (try simp only [List.map_toArray, List.map_cons, List.map_nil]); rfl) ?_; (with_reducible refine (formeref14_Few.calls a4_0 a4_1 false _ A54.out).mono ?_); rintro e w107 ⟨rfl, hb⟩; refine ⟨_, rfl, ?_⟩; replace BK299 := Aside0.mk (blk_below BK299.out hb); replace BK300 := Aside0.mk (blk_below BK300.out hb); replace BK301 := Aside0.mk (blk_below BK301.out hb); replace HB := Aside0.mk (below_step HB.out hb); (try clear hb)))
       go_ret
       exact ⟨by rfl, by repeat ((with_reducible exact HB.out))⟩
end Go.Proofs.Ytdigjjncoeaiiaa.PAll
