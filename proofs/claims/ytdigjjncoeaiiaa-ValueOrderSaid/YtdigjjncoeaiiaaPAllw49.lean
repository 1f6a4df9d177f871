/- Printed by a program of this session (wip/gprint.py) over the translation, cut to what is named (wip/dcut.py). Not trusted: Lean checks it. -/
import Derived.Test.YtdigjjncoeaiiaaPAlld0
import Derived.Test.YtdigjjncoeaiiaaPAllw23
import Derived.Test.YtdigjjncoeaiiaaPAllw30
import Derived.Test.YtdigjjncoeaiiaaPAllw31
import Derived.Test.YtdigjjncoeaiiaaPAllw33
import Derived.Test.YtdigjjncoeaiiaaPAllw490
namespace Go.Proofs.Ytdigjjncoeaiiaa.PAll
open Go.RowKit Go.Proofs.YtdigjjncoeaiiaaW.PrintWords Go.Proofs.YtdigjjncoeaiiaaW.PrintLast Go.Proofs.YtdigjjncoeaiiaaW.PrintMore
attribute [local go_sem] max2_int min2_int max_two min_two max_three min_three max_four min_four -- for this text's walks alone
set_option linter.unusedVariables false
set_option linter.unusedSimpArgs false
set_option maxHeartbeats 8000000 in
set_option maxRecDepth 100000 in
theorem formelaw14_ValueOrder.calls (k : Nat) (a0_0 : Int) (a0_1 : Int) (A0_2 : Option Addr) (c0_2 : Nat) (l0_2 : List (S24)) (a1_0 : Int) (a1_1 : Int) (A1_2 : Option Addr) (c1_2 : Nat) (l1_2 : List (S24)) (a2 : Int) (a3 : Int) (a4_0 : Int) (a4_1 : Int) (a4_2 : Int) (a4_3 : Int) (a4_4 : Int) (a4_5 : Int) (a4_6 : Int) (a4_7 : Int) (r : Bool) (w : World) (hr0_2 : Kd.C k24 w A0_2 l0_2.length l0_2) (hc0_2 : l0_2.length ≤ c0_2) (hr1_2 : Kd.C k24 w A1_2 l1_2.length l1_2) (hc1_2 : l1_2.length ≤ c1_2) (h : formelaw14_ValueOrder.f k a0_0 a0_1 l0_2 a1_0 a1_1 l1_2 a2 a3 a4_0 a4_1 a4_2 a4_3 a4_4 a4_5 a4_6 a4_7 = some r) :
  Calls Try.prog 8 #[.agg #[.int .i64 a0_0, .int .i64 a0_1, .slice A0_2 l0_2.length c0_2], .agg #[.int .i64 a1_0, .int .i64 a1_1, .slice A1_2 l1_2.length c1_2], .int .i64 a2, .int .i64 a3, .agg #[.int .i64 a4_0, .int .i64 a4_1, .int .i64 a4_2, .int .i64 a4_3, .int .i64 a4_4, .int .i64 a4_5, .int .i64 a4_6, .int .i64 a4_7]] w fun e w' => e = .returned (.bool r) ∧ Below w.heap.size w w' := by
 have hu24 := Try.underlying24
 have hu25 := Try.underlying25
 have HR0_2 := Aside0.mk hr0_2
 have HC0_2 := Aside0.mk hc0_2
 clear hr0_2 hc0_2
 have HR1_2 := Aside0.mk hr1_2
 have HC1_2 := Aside0.mk hc1_2
 clear hr1_2 hc1_2
 have HB := Aside0.mk (Below.refl w.heap.size w)
 have H : ((formelaw14_head.f).bind fun t331 => ((formelaw14_two.f 9 a0_0 a0_1 l0_2 a1_0 a1_1 l1_2).bind fun bt332 => ((formelaw14_two.f 10 a0_0 a0_1 l0_2 a1_0 a1_1 l1_2).bind fun bt337 => ((formelaw14_two.f 5 bt332.1 bt332.2.1 bt332.2.2 bt337.1 bt337.2.1 bt337.2.2).bind fun bt344 => ((formelaw14_two.f 5 a0_0 a0_1 l0_2 a1_0 a1_1 l1_2).bind fun bt349 => ((formelaw14_two.f 6 bt337.1 bt337.2.1 bt337.2.2 bt332.1 bt332.2.1 bt332.2.2).bind fun bt356 => ((formeref14_Valid.f k bt344.1 bt344.2.1 bt344.2.2).bind fun t362 => (if t362 = true then ((formeref14_Valid.f k bt356.1 bt356.2.1 bt356.2.2).bind fun t363 => (formelaw14_ValueOrder.j0 k a2 a3 t331 (!t363) a4_0 a4_1 a4_2 a4_3 a4_4 a4_5 a4_6 a4_7 bt344.1 bt344.2.1 bt344.2.2 bt349.1 bt349.2.1 bt349.2.2 bt356.1 bt356.2.1 bt356.2.2)) else (formelaw14_ValueOrder.j0 k a2 a3 t331 true a4_0 a4_1 a4_2 a4_3 a4_4 a4_5 a4_6 a4_7 bt344.1 bt344.2.1 bt344.2.2 bt349.1 bt349.2.1 bt349.2.2 bt356.1 bt356.2.1 bt356.2.2))))))))) = some r := h
 clear h
 replace H := Option.bind_eq_some_iff.mp H
 obtain ⟨t331, A60, H⟩ := H
 replace H : ((formelaw14_two.f 9 a0_0 a0_1 l0_2 a1_0 a1_1 l1_2).bind fun bt332 => ((formelaw14_two.f 10 a0_0 a0_1 l0_2 a1_0 a1_1 l1_2).bind fun bt337 => ((formelaw14_two.f 5 bt332.1 bt332.2.1 bt332.2.2 bt337.1 bt337.2.1 bt337.2.2).bind fun bt344 => ((formelaw14_two.f 5 a0_0 a0_1 l0_2 a1_0 a1_1 l1_2).bind fun bt349 => ((formelaw14_two.f 6 bt337.1 bt337.2.1 bt337.2.2 bt332.1 bt332.2.1 bt332.2.2).bind fun bt356 => ((formeref14_Valid.f k bt344.1 bt344.2.1 bt344.2.2).bind fun t362 => (if t362 = true then ((formeref14_Valid.f k bt356.1 bt356.2.1 bt356.2.2).bind fun t363 => (formelaw14_ValueOrder.j0 k a2 a3 t331 (!t363) a4_0 a4_1 a4_2 a4_3 a4_4 a4_5 a4_6 a4_7 bt344.1 bt344.2.1 bt344.2.2 bt349.1 bt349.2.1 bt349.2.2 bt356.1 bt356.2.1 bt356.2.2)) else (formelaw14_ValueOrder.j0 k a2 a3 t331 true a4_0 a4_1 a4_2 a4_3 a4_4 a4_5 a4_6 a4_7 bt344.1 bt344.2.1 bt344.2.2 bt349.1 bt349.2.1 bt349.2.2 bt356.1 bt356.2.1 bt356.2.2)))))))) = some r := H
 have A6 := Aside0.mk A60
 clear A60
 replace H := Option.bind_eq_some_iff.mp H
 obtain ⟨⟨t332, t333, t334⟩, A70, H⟩ := H
 replace H : ((formelaw14_two.f 10 a0_0 a0_1 l0_2 a1_0 a1_1 l1_2).bind fun bt337 => ((formelaw14_two.f 5 t332 t333 t334 bt337.1 bt337.2.1 bt337.2.2).bind fun bt344 => ((formelaw14_two.f 5 a0_0 a0_1 l0_2 a1_0 a1_1 l1_2).bind fun bt349 => ((formelaw14_two.f 6 bt337.1 bt337.2.1 bt337.2.2 t332 t333 t334).bind fun bt356 => ((formeref14_Valid.f k bt344.1 bt344.2.1 bt344.2.2).bind fun t362 => (if t362 = true then ((formeref14_Valid.f k bt356.1 bt356.2.1 bt356.2.2).bind fun t363 => (formelaw14_ValueOrder.j0 k a2 a3 t331 (!t363) a4_0 a4_1 a4_2 a4_3 a4_4 a4_5 a4_6 a4_7 bt344.1 bt344.2.1 bt344.2.2 bt349.1 bt349.2.1 bt349.2.2 bt356.1 bt356.2.1 bt356.2.2)) else (formelaw14_ValueOrder.j0 k a2 a3 t331 true a4_0 a4_1 a4_2 a4_3 a4_4 a4_5 a4_6 a4_7 bt344.1 bt344.2.1 bt344.2.2 bt349.1 bt349.2.1 bt349.2.2 bt356.1 bt356.2.1 bt356.2.2))))))) = some r := H
 have A7 := Aside0.mk A70
 clear A70
 replace H := Option.bind_eq_some_iff.mp H
 obtain ⟨⟨t337, t338, t339⟩, A80, H⟩ := H
 replace H : ((formelaw14_two.f 5 t332 t333 t334 t337 t338 t339).bind fun bt344 => ((formelaw14_two.f 5 a0_0 a0_1 l0_2 a1_0 a1_1 l1_2).bind fun bt349 => ((formelaw14_two.f 6 t337 t338 t339 t332 t333 t334).bind fun bt356 => ((formeref14_Valid.f k bt344.1 bt344.2.1 bt344.2.2).bind fun t362 => (if t362 = true then ((formeref14_Valid.f k bt356.1 bt356.2.1 bt356.2.2).bind fun t363 => (formelaw14_ValueOrder.j0 k a2 a3 t331 (!t363) a4_0 a4_1 a4_2 a4_3 a4_4 a4_5 a4_6 a4_7 bt344.1 bt344.2.1 bt344.2.2 bt349.1 bt349.2.1 bt349.2.2 bt356.1 bt356.2.1 bt356.2.2)) else (formelaw14_ValueOrder.j0 k a2 a3 t331 true a4_0 a4_1 a4_2 a4_3 a4_4 a4_5 a4_6 a4_7 bt344.1 bt344.2.1 bt344.2.2 bt349.1 bt349.2.1 bt349.2.2 bt356.1 bt356.2.1 bt356.2.2)))))) = some r := H
 have A8 := Aside0.mk A80
 clear A80
 replace H := Option.bind_eq_some_iff.mp H
 obtain ⟨⟨t344, t345, t346⟩, A90, H⟩ := H
 replace H : ((formelaw14_two.f 5 a0_0 a0_1 l0_2 a1_0 a1_1 l1_2).bind fun bt349 => ((formelaw14_two.f 6 t337 t338 t339 t332 t333 t334).bind fun bt356 => ((formeref14_Valid.f k t344 t345 t346).bind fun t362 => (if t362 = true then ((formeref14_Valid.f k bt356.1 bt356.2.1 bt356.2.2).bind fun t363 => (formelaw14_ValueOrder.j0 k a2 a3 t331 (!t363) a4_0 a4_1 a4_2 a4_3 a4_4 a4_5 a4_6 a4_7 t344 t345 t346 bt349.1 bt349.2.1 bt349.2.2 bt356.1 bt356.2.1 bt356.2.2)) else (formelaw14_ValueOrder.j0 k a2 a3 t331 true a4_0 a4_1 a4_2 a4_3 a4_4 a4_5 a4_6 a4_7 t344 t345 t346 bt349.1 bt349.2.1 bt349.2.2 bt356.1 bt356.2.1 bt356.2.2))))) = some r := H
 have A9 := Aside0.mk A90
 clear A90
 replace H := Option.bind_eq_some_iff.mp H
 obtain ⟨⟨t349, t350, t351⟩, A100, H⟩ := H
 replace H : ((formelaw14_two.f 6 t337 t338 t339 t332 t333 t334).bind fun bt356 => ((formeref14_Valid.f k t344 t345 t346).bind fun t362 => (if t362 = true then ((formeref14_Valid.f k bt356.1 bt356.2.1 bt356.2.2).bind fun t363 => (formelaw14_ValueOrder.j0 k a2 a3 t331 (!t363) a4_0 a4_1 a4_2 a4_3 a4_4 a4_5 a4_6 a4_7 t344 t345 t346 t349 t350 t351 bt356.1 bt356.2.1 bt356.2.2)) else (formelaw14_ValueOrder.j0 k a2 a3 t331 true a4_0 a4_1 a4_2 a4_3 a4_4 a4_5 a4_6 a4_7 t344 t345 t346 t349 t350 t351 bt356.1 bt356.2.1 bt356.2.2)))) = some r := H
 have A10 := Aside0.mk A100
 clear A100
 replace H := Option.bind_eq_some_iff.mp H
 obtain ⟨⟨t356, t357, t358⟩, A110, H⟩ := H
 replace H : ((formeref14_Valid.f k t344 t345 t346).bind fun t362 => (if t362 = true then ((formeref14_Valid.f k t356 t357 t358).bind fun t363 => (formelaw14_ValueOrder.j0 k a2 a3 t331 (!t363) a4_0 a4_1 a4_2 a4_3 a4_4 a4_5 a4_6 a4_7 t344 t345 t346 t349 t350 t351 t356 t357 t358)) else (formelaw14_ValueOrder.j0 k a2 a3 t331 true a4_0 a4_1 a4_2 a4_3 a4_4 a4_5 a4_6 a4_7 t344 t345 t346 t349 t350 t351 t356 t357 t358))) = some r := H
 have A11 := Aside0.mk A110
 clear A110
 have HC12 := Aside0.mk H
 clear H
 go_enter Try.func8, Try.ntmps8
 try go_wp2_with (first | ((with_reducible refine gate_dst (N := 5) rfl ?_); refine box_event ?hg (N := 5) ?hd (cs := #[.int .i64 a0_0, .int .i64 a0_1, .slice A0_2 l0_2.length c0_2]) (t := 24) ?hr ?_; (case hd => rfl); (case hg => rfl); (case hr => (go_simp; done)); intro gb328 hg w13 hbox hb; have BK328 := Aside0.mk (hbox); have GW328 := Aside0.mk ((by rw [hg]; exact (below_size HB.out) : w.heap.size ≤ gb328)); have GE328 := Aside0.mk ((by rw [hg]; exact (below_size HB.out) : w.heap.size ≤ gb328)); replace HB := Aside0.mk (below_step HB.out hb); clear hb hbox hg) | ((with_reducible refine gate_dst (N := 6) rfl ?_); refine box_event ?hg (N := 6) ?hd (cs := #[.int .i64 a1_0, .int .i64 a1_1, .slice A1_2 l1_2.length c1_2]) (t := 24) ?hr ?_; (case hd => rfl); (case hg => rfl); (case hr => (go_simp; done)); intro gb329 hg w14 hbox hb; have BK329 := Aside0.mk (hbox); have GW329 := Aside0.mk ((by rw [hg]; exact (below_size HB.out) : w.heap.size ≤ gb329)); have GE329 := Aside0.mk ((by rw [hg]; exact (below_size HB.out) : w.heap.size ≤ gb329)); replace HB := Aside0.mk (below_step HB.out hb); have NB328_329 := Aside0.mk ((by rw [hg]; exact Nat.ne_of_lt (blk_lt BK328.out) : gb328 ≠ gb329)); have NB329_328 := Aside0.mk ((by rw [hg]; exact Nat.ne_of_gt (blk_lt BK328.out) : gb329 ≠ gb328)); replace BK328 := Aside0.mk (blk_below BK328.out hb); clear hb hbox hg) | ((with_reducible refine gate_dst (N := 9) rfl ?_); refine box_event ?hg (N := 9) ?hd (cs := #[.int .i64 a4_0, .int .i64 a4_1, .int .i64 a4_2, .int .i64 a4_3, .int .i64 a4_4, .int .i64 a4_5, .int .i64 a4_6, .int .i64 a4_7]) (t := 25) ?hr ?_; (case hd => rfl); (case hg => rfl); (case hr => (go_simp; done)); intro gb330 hg w15 hbox hb; have BK330 := Aside0.mk (hbox); have GW330 := Aside0.mk ((by rw [hg]; exact (below_size HB.out) : w.heap.size ≤ gb330)); have GE330 := Aside0.mk ((by rw [hg]; exact (below_size HB.out) : w.heap.size ≤ gb330)); replace HB := Aside0.mk (below_step HB.out hb); have NB328_330 := Aside0.mk ((by rw [hg]; exact Nat.ne_of_lt (blk_lt BK328.out) : gb328 ≠ gb330)); have NB330_328 := Aside0.mk ((by rw [hg]; exact Nat.ne_of_gt (blk_lt BK328.out) : gb330 ≠ gb328)); replace BK328 := Aside0.mk (blk_below BK328.out hb); have NB329_330 := Aside0.mk ((by rw [hg]; exact Nat.ne_of_lt (blk_lt BK329.out) : gb329 ≠ gb330)); have NB330_329 := Aside0.mk ((by rw [hg]; exact Nat.ne_of_gt (blk_lt BK329.out) : gb330 ≠ gb329)); replace BK329 := Aside0.mk (blk_below BK329.out hb); clear hb hbox hg) | ((with_reducible refine gate_callee (f := 10) rfl ?_); refine goesL_ (some 23) rfl rfl Try.func10 (by kernel_rfl) rfl #[] rfl (by (try simp only [List.map_toArray, List.map_cons, List.map_nil]); done) ?_; (with_reducible refine (formelaw14_head.calls  t331 _ A6.out).mono ?_); rintro e w16 ⟨rfl, hb⟩; refine ⟨_, rfl, ?_⟩; replace BK328 := Aside0.mk (blk_below BK328.out hb); replace BK329 := Aside0.mk (blk_below BK329.out hb); replace BK330 := Aside0.mk (blk_below BK330.out hb); replace HB := Aside0.mk (below_step HB.out hb); (try clear hb)))
 replace BK328 := Aside0.mk (blk_drew BK328.out)
 replace BK329 := Aside0.mk (blk_drew BK329.out)
 replace BK330 := Aside0.mk (blk_drew BK330.out)
 replace HB := Aside0.mk (below_drew1 HB.out)
 refine start_ (n := 10) (S := fun w' => w'.cell? ⟨gb328, 0, none⟩ = some (.int .i64 a0_0) ∧ w'.cell? ⟨gb328, 1, none⟩ = some (.int .i64 a0_1) ∧ w'.cell? ⟨gb328, 2, none⟩ = some (.slice A0_2 l0_2.length c0_2) ∧ w'.cell? ⟨gb329, 0, none⟩ = some (.int .i64 a1_0) ∧ w'.cell? ⟨gb329, 1, none⟩ = some (.int .i64 a1_1) ∧ w'.cell? ⟨gb329, 2, none⟩ = some (.slice A1_2 l1_2.length c1_2)) (ds := []) #[false, false, false, false, false, false, false, false, false, false] (by kernel_rfl) rfl rfl ⟨(blk_cell BK328.out 0).trans rfl, (blk_cell BK328.out 1).trans rfl, (blk_cell BK328.out 2).trans rfl, (blk_cell BK329.out 0).trans rfl, (blk_cell BK329.out 1).trans rfl, (blk_cell BK329.out 2).trans rfl⟩ (fun hHeld => ?_); refine with_tabW formelaw14_ValueOrder.tab2 formelaw14_ValueOrder.bits2 (fun HT_ HW_ => ?_)
 generalize w16.drew = w17 at BK328 BK329 BK330 HB hHeld ⊢
 refine take_ (i := 0) (N := some 24) (v := ?_) (a' := ?_) #[true, false, false, false, false, false, false, false, false, false] rfl rfl (take_ofW HT_.out HW_.out (by kernel_rfl)) (fun _ _ _ h => h) (Or.inl ⟨by rfl, ?_⟩) hHeld ?_ ?_
 rotate_left
 · rintro w' ⟨s0, s1, s2, s3, s4, s5⟩
   go_simp
   with_reducible rfl
 rotate_left
 · simp only [Act.put, List.setIfInBounds_toArray, List.set_cons_zero, List.set_cons_succ, i64_w, i32_w]
   rfl
 refine take_ (i := 1) (N := some 25) (v := ?_) (a' := ?_) #[true, true, false, false, false, false, false, false, false, false] rfl rfl (take_ofW HT_.out HW_.out (by kernel_rfl)) (fun _ _ _ h => h) (Or.inl ⟨by rfl, ?_⟩) hHeld ?_ ?_
 rotate_left
 · rintro w' ⟨s0, s1, s2, s3, s4, s5⟩
   go_simp
   with_reducible rfl
 rotate_left
 · simp only [Act.put, List.setIfInBounds_toArray, List.set_cons_zero, List.set_cons_succ, i64_w, i32_w]
   rfl
 refine take_ (i := 3) (N := some 27) (v := ?_) (a' := ?_) #[true, true, false, true, false, false, false, false, false, false] rfl rfl (take_ofW HT_.out HW_.out (by kernel_rfl)) (fun _ _ _ h => h) (Or.inl ⟨by rfl, ?_⟩) hHeld ?_ ?_
 rotate_left
 · rintro w' ⟨s0, s1, s2, s3, s4, s5⟩
   go_simp
   with_reducible rfl
 rotate_left
 · simp only [Act.put, List.setIfInBounds_toArray, List.set_cons_zero, List.set_cons_succ, i64_w, i32_w]
   rfl
 refine take_ (i := 4) (N := some 28) (v := ?_) (a' := ?_) #[true, true, false, true, true, false, false, false, false, false] rfl rfl (take_ofW HT_.out HW_.out (by kernel_rfl)) (fun _ _ _ h => h) (Or.inl ⟨by rfl, ?_⟩) hHeld ?_ ?_
 rotate_left
 · rintro w' ⟨s0, s1, s2, s3, s4, s5⟩
   go_simp
   with_reducible rfl
 rotate_left
 · simp only [Act.put, List.setIfInBounds_toArray, List.set_cons_zero, List.set_cons_succ, i64_w, i32_w]
   rfl
 refine join_ (σ := Value × Value × Nat × Nat) 2 #[true, true, true, true, true, true, true, true, false, false] (fun s_ => [(26, .agg #[.int .i64 t332, .int .i64 t333, s_.1]), (29, .agg #[.int .i64 t337, .int .i64 t338, s_.2.1]), (12, .pointer (some ⟨s_.2.2.1, 0, none⟩)), (13, .pointer (some ⟨s_.2.2.2, 0, none⟩))]) (fun s_ w' => (w'.cell? ⟨gb328, 0, none⟩ = some (.int .i64 a0_0) ∧ w'.cell? ⟨gb328, 1, none⟩ = some (.int .i64 a0_1) ∧ w'.cell? ⟨gb328, 2, none⟩ = some (.slice A0_2 l0_2.length c0_2) ∧ w'.cell? ⟨gb329, 0, none⟩ = some (.int .i64 a1_0) ∧ w'.cell? ⟨gb329, 1, none⟩ = some (.int .i64 a1_1) ∧ w'.cell? ⟨gb329, 2, none⟩ = some (.slice A1_2 l1_2.length c1_2)) ∧ (Kd.N k24 24 w' w.heap.size (fun k_ => some k_ ≠ (s_.2.1 : Value).ownBlock ∧ k_ ≠ gb328 ∧ k_ ≠ gb329 ∧ k_ ≠ gb330 ∧ k_ ≠ s_.2.2.1 ∧ k_ ≠ s_.2.2.2) s_.1 t334) ∧ (Kd.N k24 24 w' w.heap.size (fun k_ => some k_ ≠ (s_.1 : Value).ownBlock ∧ k_ ≠ gb328 ∧ k_ ≠ gb329 ∧ k_ ≠ gb330 ∧ k_ ≠ s_.2.2.1 ∧ k_ ≠ s_.2.2.2) s_.2.1 t339) ∧ (w'.heap[gb328]? = some (.cells #[.int .i64 a0_0, .int .i64 a0_1, .slice A0_2 l0_2.length c0_2] 24 (0, 0))) ∧ (w'.heap[gb329]? = some (.cells #[.int .i64 a1_0, .int .i64 a1_1, .slice A1_2 l1_2.length c1_2] 24 (0, 0))) ∧ (w'.heap[gb330]? = some (.cells #[.int .i64 a4_0, .int .i64 a4_1, .int .i64 a4_2, .int .i64 a4_3, .int .i64 a4_4, .int .i64 a4_5, .int .i64 a4_6, .int .i64 a4_7] 25 (0, 0))) ∧ (w'.heap[s_.2.2.1]? = some (.cells #[.int .i64 0, .int .i64 0, .slice none 0 0] 24 (0, 0))) ∧ (w'.heap[s_.2.2.2]? = some (.cells #[.int .i64 0, .int .i64 0, .slice none 0 0] 24 (0, 0))) ∧ (w.heap.size ≤ s_.2.2.1) ∧ (w.heap.size ≤ s_.2.2.1) ∧ (gb328 ≠ s_.2.2.1) ∧ (s_.2.2.1 ≠ gb328) ∧ (gb329 ≠ s_.2.2.1) ∧ (s_.2.2.1 ≠ gb329) ∧ (gb330 ≠ s_.2.2.1) ∧ (s_.2.2.1 ≠ gb330) ∧ (s_.2.2.2 ≠ s_.2.2.1) ∧ (s_.2.2.1 ≠ s_.2.2.2) ∧ (w.heap.size ≤ s_.2.2.2) ∧ (w.heap.size ≤ s_.2.2.2) ∧ (gb328 ≠ s_.2.2.2) ∧ (s_.2.2.2 ≠ gb328) ∧ (gb329 ≠ s_.2.2.2) ∧ (s_.2.2.2 ≠ gb329) ∧ (gb330 ≠ s_.2.2.2) ∧ (s_.2.2.2 ≠ gb330) ∧ (Below w.heap.size w w')) ?_ ?_
 rotate_left
 · intro hJ2_5_6_7
   refine join_ (σ := Value × Value × Nat) 3 #[true, true, true, true, true, true, true, false, false, false] (fun s_ => [(26, .agg #[.int .i64 t332, .int .i64 t333, s_.1]), (29, .agg #[.int .i64 t337, .int .i64 t338, s_.2.1]), (12, .pointer (some ⟨s_.2.2, 0, none⟩))]) (fun s_ w' => (w'.cell? ⟨gb328, 0, none⟩ = some (.int .i64 a0_0) ∧ w'.cell? ⟨gb328, 1, none⟩ = some (.int .i64 a0_1) ∧ w'.cell? ⟨gb328, 2, none⟩ = some (.slice A0_2 l0_2.length c0_2) ∧ w'.cell? ⟨gb329, 0, none⟩ = some (.int .i64 a1_0) ∧ w'.cell? ⟨gb329, 1, none⟩ = some (.int .i64 a1_1) ∧ w'.cell? ⟨gb329, 2, none⟩ = some (.slice A1_2 l1_2.length c1_2)) ∧ (Kd.N k24 24 w' w.heap.size (fun k_ => some k_ ≠ (s_.2.1 : Value).ownBlock ∧ k_ ≠ gb328 ∧ k_ ≠ gb329 ∧ k_ ≠ gb330 ∧ k_ ≠ s_.2.2) s_.1 t334) ∧ (Kd.N k24 24 w' w.heap.size (fun k_ => some k_ ≠ (s_.1 : Value).ownBlock ∧ k_ ≠ gb328 ∧ k_ ≠ gb329 ∧ k_ ≠ gb330 ∧ k_ ≠ s_.2.2) s_.2.1 t339) ∧ (w'.heap[gb328]? = some (.cells #[.int .i64 a0_0, .int .i64 a0_1, .slice A0_2 l0_2.length c0_2] 24 (0, 0))) ∧ (w'.heap[gb329]? = some (.cells #[.int .i64 a1_0, .int .i64 a1_1, .slice A1_2 l1_2.length c1_2] 24 (0, 0))) ∧ (w'.heap[gb330]? = some (.cells #[.int .i64 a4_0, .int .i64 a4_1, .int .i64 a4_2, .int .i64 a4_3, .int .i64 a4_4, .int .i64 a4_5, .int .i64 a4_6, .int .i64 a4_7] 25 (0, 0))) ∧ (w'.heap[s_.2.2]? = some (.cells #[.int .i64 0, .int .i64 0, .slice none 0 0] 24 (0, 0))) ∧ (w.heap.size ≤ s_.2.2) ∧ (w.heap.size ≤ s_.2.2) ∧ (gb328 ≠ s_.2.2) ∧ (s_.2.2 ≠ gb328) ∧ (gb329 ≠ s_.2.2) ∧ (s_.2.2 ≠ gb329) ∧ (gb330 ≠ s_.2.2) ∧ (s_.2.2 ≠ gb330) ∧ (Below w.heap.size w w')) ?_ ?_
   rotate_left
   · intro hJ2_5_6
     refine join_ (σ := Value × Value × Nat) 3 #[true, true, true, true, true, true, false, true, false, false] (fun s_ => [(26, .agg #[.int .i64 t332, .int .i64 t333, s_.1]), (29, .agg #[.int .i64 t337, .int .i64 t338, s_.2.1]), (13, .pointer (some ⟨s_.2.2, 0, none⟩))]) (fun s_ w' => (w'.cell? ⟨gb328, 0, none⟩ = some (.int .i64 a0_0) ∧ w'.cell? ⟨gb328, 1, none⟩ = some (.int .i64 a0_1) ∧ w'.cell? ⟨gb328, 2, none⟩ = some (.slice A0_2 l0_2.length c0_2) ∧ w'.cell? ⟨gb329, 0, none⟩ = some (.int .i64 a1_0) ∧ w'.cell? ⟨gb329, 1, none⟩ = some (.int .i64 a1_1) ∧ w'.cell? ⟨gb329, 2, none⟩ = some (.slice A1_2 l1_2.length c1_2)) ∧ (Kd.N k24 24 w' w.heap.size (fun k_ => some k_ ≠ (s_.2.1 : Value).ownBlock ∧ k_ ≠ gb328 ∧ k_ ≠ gb329 ∧ k_ ≠ gb330 ∧ k_ ≠ s_.2.2) s_.1 t334) ∧ (Kd.N k24 24 w' w.heap.size (fun k_ => some k_ ≠ (s_.1 : Value).ownBlock ∧ k_ ≠ gb328 ∧ k_ ≠ gb329 ∧ k_ ≠ gb330 ∧ k_ ≠ s_.2.2) s_.2.1 t339) ∧ (w'.heap[gb328]? = some (.cells #[.int .i64 a0_0, .int .i64 a0_1, .slice A0_2 l0_2.length c0_2] 24 (0, 0))) ∧ (w'.heap[gb329]? = some (.cells #[.int .i64 a1_0, .int .i64 a1_1, .slice A1_2 l1_2.length c1_2] 24 (0, 0))) ∧ (w'.heap[gb330]? = some (.cells #[.int .i64 a4_0, .int .i64 a4_1, .int .i64 a4_2, .int .i64 a4_3, .int .i64 a4_4, .int .i64 a4_5, .int .i64 a4_6, .int .i64 a4_7] 25 (0, 0))) ∧ (w'.heap[s_.2.2]? = some (.cells #[.int .i64 0, .int .i64 0, .slice none 0 0] 24 (0, 0))) ∧ (w.heap.size ≤ s_.2.2) ∧ (w.heap.size ≤ s_.2.2) ∧ (gb328 ≠ s_.2.2) ∧ (s_.2.2 ≠ gb328) ∧ (gb329 ≠ s_.2.2) ∧ (s_.2.2 ≠ gb329) ∧ (gb330 ≠ s_.2.2) ∧ (s_.2.2 ≠ gb330) ∧ (Below w.heap.size w w')) ?_ ?_
     rotate_left
     · intro hJ2_5_7
       refine join_ (σ := Value × Nat × Nat) 3 #[true, true, true, true, true, false, true, true, false, false] (fun s_ => [(26, .agg #[.int .i64 t332, .int .i64 t333, s_.1]), (12, .pointer (some ⟨s_.2.1, 0, none⟩)), (13, .pointer (some ⟨s_.2.2, 0, none⟩))]) (fun s_ w' => (w'.cell? ⟨gb328, 0, none⟩ = some (.int .i64 a0_0) ∧ w'.cell? ⟨gb328, 1, none⟩ = some (.int .i64 a0_1) ∧ w'.cell? ⟨gb328, 2, none⟩ = some (.slice A0_2 l0_2.length c0_2) ∧ w'.cell? ⟨gb329, 0, none⟩ = some (.int .i64 a1_0) ∧ w'.cell? ⟨gb329, 1, none⟩ = some (.int .i64 a1_1) ∧ w'.cell? ⟨gb329, 2, none⟩ = some (.slice A1_2 l1_2.length c1_2)) ∧ (Kd.N k24 24 w' w.heap.size (fun k_ => k_ ≠ gb328 ∧ k_ ≠ gb329 ∧ k_ ≠ gb330 ∧ k_ ≠ s_.2.1 ∧ k_ ≠ s_.2.2) s_.1 t334) ∧ (w'.heap[gb328]? = some (.cells #[.int .i64 a0_0, .int .i64 a0_1, .slice A0_2 l0_2.length c0_2] 24 (0, 0))) ∧ (w'.heap[gb329]? = some (.cells #[.int .i64 a1_0, .int .i64 a1_1, .slice A1_2 l1_2.length c1_2] 24 (0, 0))) ∧ (w'.heap[gb330]? = some (.cells #[.int .i64 a4_0, .int .i64 a4_1, .int .i64 a4_2, .int .i64 a4_3, .int .i64 a4_4, .int .i64 a4_5, .int .i64 a4_6, .int .i64 a4_7] 25 (0, 0))) ∧ (w'.heap[s_.2.1]? = some (.cells #[.int .i64 0, .int .i64 0, .slice none 0 0] 24 (0, 0))) ∧ (w'.heap[s_.2.2]? = some (.cells #[.int .i64 0, .int .i64 0, .slice none 0 0] 24 (0, 0))) ∧ (w.heap.size ≤ s_.2.1) ∧ (w.heap.size ≤ s_.2.1) ∧ (gb328 ≠ s_.2.1) ∧ (s_.2.1 ≠ gb328) ∧ (gb329 ≠ s_.2.1) ∧ (s_.2.1 ≠ gb329) ∧ (gb330 ≠ s_.2.1) ∧ (s_.2.1 ≠ gb330) ∧ (s_.2.2 ≠ s_.2.1) ∧ (s_.2.1 ≠ s_.2.2) ∧ (w.heap.size ≤ s_.2.2) ∧ (w.heap.size ≤ s_.2.2) ∧ (gb328 ≠ s_.2.2) ∧ (s_.2.2 ≠ gb328) ∧ (gb329 ≠ s_.2.2) ∧ (s_.2.2 ≠ gb329) ∧ (gb330 ≠ s_.2.2) ∧ (s_.2.2 ≠ gb330) ∧ (Below w.heap.size w w')) ?_ ?_
       rotate_left
       · intro hJ2_6_7
         refine join_ (σ := Value × Value) 4 #[true, true, true, true, true, true, false, false, false, false] (fun s_ => [(26, .agg #[.int .i64 t332, .int .i64 t333, s_.1]), (29, .agg #[.int .i64 t337, .int .i64 t338, s_.2])]) (fun s_ w' => (w'.cell? ⟨gb328, 0, none⟩ = some (.int .i64 a0_0) ∧ w'.cell? ⟨gb328, 1, none⟩ = some (.int .i64 a0_1) ∧ w'.cell? ⟨gb328, 2, none⟩ = some (.slice A0_2 l0_2.length c0_2) ∧ w'.cell? ⟨gb329, 0, none⟩ = some (.int .i64 a1_0) ∧ w'.cell? ⟨gb329, 1, none⟩ = some (.int .i64 a1_1) ∧ w'.cell? ⟨gb329, 2, none⟩ = some (.slice A1_2 l1_2.length c1_2)) ∧ (Kd.N k24 24 w' w.heap.size (fun k_ => some k_ ≠ (s_.2 : Value).ownBlock ∧ k_ ≠ gb328 ∧ k_ ≠ gb329 ∧ k_ ≠ gb330) s_.1 t334) ∧ (Kd.N k24 24 w' w.heap.size (fun k_ => some k_ ≠ (s_.1 : Value).ownBlock ∧ k_ ≠ gb328 ∧ k_ ≠ gb329 ∧ k_ ≠ gb330) s_.2 t339) ∧ (w'.heap[gb328]? = some (.cells #[.int .i64 a0_0, .int .i64 a0_1, .slice A0_2 l0_2.length c0_2] 24 (0, 0))) ∧ (w'.heap[gb329]? = some (.cells #[.int .i64 a1_0, .int .i64 a1_1, .slice A1_2 l1_2.length c1_2] 24 (0, 0))) ∧ (w'.heap[gb330]? = some (.cells #[.int .i64 a4_0, .int .i64 a4_1, .int .i64 a4_2, .int .i64 a4_3, .int .i64 a4_4, .int .i64 a4_5, .int .i64 a4_6, .int .i64 a4_7] 25 (0, 0))) ∧ (Below w.heap.size w w')) ?_ ?_
         rotate_left
         · intro hJ2_5
           refine join_ (σ := Value × Nat) 4 #[true, true, true, true, true, false, true, false, false, false] (fun s_ => [(26, .agg #[.int .i64 t332, .int .i64 t333, s_.1]), (12, .pointer (some ⟨s_.2, 0, none⟩))]) (fun s_ w' => (w'.cell? ⟨gb328, 0, none⟩ = some (.int .i64 a0_0) ∧ w'.cell? ⟨gb328, 1, none⟩ = some (.int .i64 a0_1) ∧ w'.cell? ⟨gb328, 2, none⟩ = some (.slice A0_2 l0_2.length c0_2) ∧ w'.cell? ⟨gb329, 0, none⟩ = some (.int .i64 a1_0) ∧ w'.cell? ⟨gb329, 1, none⟩ = some (.int .i64 a1_1) ∧ w'.cell? ⟨gb329, 2, none⟩ = some (.slice A1_2 l1_2.length c1_2)) ∧ (Kd.N k24 24 w' w.heap.size (fun k_ => k_ ≠ gb328 ∧ k_ ≠ gb329 ∧ k_ ≠ gb330 ∧ k_ ≠ s_.2) s_.1 t334) ∧ (w'.heap[gb328]? = some (.cells #[.int .i64 a0_0, .int .i64 a0_1, .slice A0_2 l0_2.length c0_2] 24 (0, 0))) ∧ (w'.heap[gb329]? = some (.cells #[.int .i64 a1_0, .int .i64 a1_1, .slice A1_2 l1_2.length c1_2] 24 (0, 0))) ∧ (w'.heap[gb330]? = some (.cells #[.int .i64 a4_0, .int .i64 a4_1, .int .i64 a4_2, .int .i64 a4_3, .int .i64 a4_4, .int .i64 a4_5, .int .i64 a4_6, .int .i64 a4_7] 25 (0, 0))) ∧ (w'.heap[s_.2]? = some (.cells #[.int .i64 0, .int .i64 0, .slice none 0 0] 24 (0, 0))) ∧ (w.heap.size ≤ s_.2) ∧ (w.heap.size ≤ s_.2) ∧ (gb328 ≠ s_.2) ∧ (s_.2 ≠ gb328) ∧ (gb329 ≠ s_.2) ∧ (s_.2 ≠ gb329) ∧ (gb330 ≠ s_.2) ∧ (s_.2 ≠ gb330) ∧ (Below w.heap.size w w')) ?_ ?_
           rotate_left
           · intro hJ2_6
             refine join_ (σ := Value × Nat) 4 #[true, true, true, true, true, false, false, true, false, false] (fun s_ => [(26, .agg #[.int .i64 t332, .int .i64 t333, s_.1]), (13, .pointer (some ⟨s_.2, 0, none⟩))]) (fun s_ w' => (w'.cell? ⟨gb328, 0, none⟩ = some (.int .i64 a0_0) ∧ w'.cell? ⟨gb328, 1, none⟩ = some (.int .i64 a0_1) ∧ w'.cell? ⟨gb328, 2, none⟩ = some (.slice A0_2 l0_2.length c0_2) ∧ w'.cell? ⟨gb329, 0, none⟩ = some (.int .i64 a1_0) ∧ w'.cell? ⟨gb329, 1, none⟩ = some (.int .i64 a1_1) ∧ w'.cell? ⟨gb329, 2, none⟩ = some (.slice A1_2 l1_2.length c1_2)) ∧ (Kd.N k24 24 w' w.heap.size (fun k_ => k_ ≠ gb328 ∧ k_ ≠ gb329 ∧ k_ ≠ gb330 ∧ k_ ≠ s_.2) s_.1 t334) ∧ (w'.heap[gb328]? = some (.cells #[.int .i64 a0_0, .int .i64 a0_1, .slice A0_2 l0_2.length c0_2] 24 (0, 0))) ∧ (w'.heap[gb329]? = some (.cells #[.int .i64 a1_0, .int .i64 a1_1, .slice A1_2 l1_2.length c1_2] 24 (0, 0))) ∧ (w'.heap[gb330]? = some (.cells #[.int .i64 a4_0, .int .i64 a4_1, .int .i64 a4_2, .int .i64 a4_3, .int .i64 a4_4, .int .i64 a4_5, .int .i64 a4_6, .int .i64 a4_7] 25 (0, 0))) ∧ (w'.heap[s_.2]? = some (.cells #[.int .i64 0, .int .i64 0, .slice none 0 0] 24 (0, 0))) ∧ (w.heap.size ≤ s_.2) ∧ (w.heap.size ≤ s_.2) ∧ (gb328 ≠ s_.2) ∧ (s_.2 ≠ gb328) ∧ (gb329 ≠ s_.2) ∧ (s_.2 ≠ gb329) ∧ (gb330 ≠ s_.2) ∧ (s_.2 ≠ gb330) ∧ (Below w.heap.size w w')) ?_ ?_
             rotate_left
             · intro hJ2_7
               refine join_ (σ := Nat × Nat) 4 #[true, true, false, true, true, false, true, true, false, false] (fun s_ => [(12, .pointer (some ⟨s_.1, 0, none⟩)), (13, .pointer (some ⟨s_.2, 0, none⟩))]) (fun s_ w' => (w'.cell? ⟨gb328, 0, none⟩ = some (.int .i64 a0_0) ∧ w'.cell? ⟨gb328, 1, none⟩ = some (.int .i64 a0_1) ∧ w'.cell? ⟨gb328, 2, none⟩ = some (.slice A0_2 l0_2.length c0_2) ∧ w'.cell? ⟨gb329, 0, none⟩ = some (.int .i64 a1_0) ∧ w'.cell? ⟨gb329, 1, none⟩ = some (.int .i64 a1_1) ∧ w'.cell? ⟨gb329, 2, none⟩ = some (.slice A1_2 l1_2.length c1_2)) ∧ (w'.heap[gb328]? = some (.cells #[.int .i64 a0_0, .int .i64 a0_1, .slice A0_2 l0_2.length c0_2] 24 (0, 0))) ∧ (w'.heap[gb329]? = some (.cells #[.int .i64 a1_0, .int .i64 a1_1, .slice A1_2 l1_2.length c1_2] 24 (0, 0))) ∧ (w'.heap[gb330]? = some (.cells #[.int .i64 a4_0, .int .i64 a4_1, .int .i64 a4_2, .int .i64 a4_3, .int .i64 a4_4, .int .i64 a4_5, .int .i64 a4_6, .int .i64 a4_7] 25 (0, 0))) ∧ (w'.heap[s_.1]? = some (.cells #[.int .i64 0, .int .i64 0, .slice none 0 0] 24 (0, 0))) ∧ (w'.heap[s_.2]? = some (.cells #[.int .i64 0, .int .i64 0, .slice none 0 0] 24 (0, 0))) ∧ (w.heap.size ≤ s_.1) ∧ (w.heap.size ≤ s_.1) ∧ (gb328 ≠ s_.1) ∧ (s_.1 ≠ gb328) ∧ (gb329 ≠ s_.1) ∧ (s_.1 ≠ gb329) ∧ (gb330 ≠ s_.1) ∧ (s_.1 ≠ gb330) ∧ (s_.2 ≠ s_.1) ∧ (s_.1 ≠ s_.2) ∧ (w.heap.size ≤ s_.2) ∧ (w.heap.size ≤ s_.2) ∧ (gb328 ≠ s_.2) ∧ (s_.2 ≠ gb328) ∧ (gb329 ≠ s_.2) ∧ (s_.2 ≠ gb329) ∧ (gb330 ≠ s_.2) ∧ (s_.2 ≠ gb330) ∧ (Below w.heap.size w w')) ?_ ?_
               rotate_left
               · intro hJ6_7
                 refine join_ (σ := Value) 5 #[true, true, true, true, true, false, false, false, false, false] (fun s_ => [(26, .agg #[.int .i64 t332, .int .i64 t333, s_])]) (fun s_ w' => (w'.cell? ⟨gb328, 0, none⟩ = some (.int .i64 a0_0) ∧ w'.cell? ⟨gb328, 1, none⟩ = some (.int .i64 a0_1) ∧ w'.cell? ⟨gb328, 2, none⟩ = some (.slice A0_2 l0_2.length c0_2) ∧ w'.cell? ⟨gb329, 0, none⟩ = some (.int .i64 a1_0) ∧ w'.cell? ⟨gb329, 1, none⟩ = some (.int .i64 a1_1) ∧ w'.cell? ⟨gb329, 2, none⟩ = some (.slice A1_2 l1_2.length c1_2)) ∧ (Kd.N k24 24 w' w.heap.size (fun k_ => k_ ≠ gb328 ∧ k_ ≠ gb329 ∧ k_ ≠ gb330) s_ t334) ∧ (w'.heap[gb328]? = some (.cells #[.int .i64 a0_0, .int .i64 a0_1, .slice A0_2 l0_2.length c0_2] 24 (0, 0))) ∧ (w'.heap[gb329]? = some (.cells #[.int .i64 a1_0, .int .i64 a1_1, .slice A1_2 l1_2.length c1_2] 24 (0, 0))) ∧ (w'.heap[gb330]? = some (.cells #[.int .i64 a4_0, .int .i64 a4_1, .int .i64 a4_2, .int .i64 a4_3, .int .i64 a4_4, .int .i64 a4_5, .int .i64 a4_6, .int .i64 a4_7] 25 (0, 0))) ∧ (Below w.heap.size w w')) ?_ ?_
                 rotate_left
                 · intro hJ2
                   refine join_ (σ := Nat) 5 #[true, true, false, true, true, false, true, false, false, false] (fun s_ => [(12, .pointer (some ⟨s_, 0, none⟩))]) (fun s_ w' => (w'.cell? ⟨gb328, 0, none⟩ = some (.int .i64 a0_0) ∧ w'.cell? ⟨gb328, 1, none⟩ = some (.int .i64 a0_1) ∧ w'.cell? ⟨gb328, 2, none⟩ = some (.slice A0_2 l0_2.length c0_2) ∧ w'.cell? ⟨gb329, 0, none⟩ = some (.int .i64 a1_0) ∧ w'.cell? ⟨gb329, 1, none⟩ = some (.int .i64 a1_1) ∧ w'.cell? ⟨gb329, 2, none⟩ = some (.slice A1_2 l1_2.length c1_2)) ∧ (w'.heap[gb328]? = some (.cells #[.int .i64 a0_0, .int .i64 a0_1, .slice A0_2 l0_2.length c0_2] 24 (0, 0))) ∧ (w'.heap[gb329]? = some (.cells #[.int .i64 a1_0, .int .i64 a1_1, .slice A1_2 l1_2.length c1_2] 24 (0, 0))) ∧ (w'.heap[gb330]? = some (.cells #[.int .i64 a4_0, .int .i64 a4_1, .int .i64 a4_2, .int .i64 a4_3, .int .i64 a4_4, .int .i64 a4_5, .int .i64 a4_6, .int .i64 a4_7] 25 (0, 0))) ∧ (w'.heap[s_]? = some (.cells #[.int .i64 0, .int .i64 0, .slice none 0 0] 24 (0, 0))) ∧ (w.heap.size ≤ s_) ∧ (w.heap.size ≤ s_) ∧ (gb328 ≠ s_) ∧ (s_ ≠ gb328) ∧ (gb329 ≠ s_) ∧ (s_ ≠ gb329) ∧ (gb330 ≠ s_) ∧ (s_ ≠ gb330) ∧ (Below w.heap.size w w')) ?_ ?_
                   rotate_left
                   · intro hJ6
                     refine join_ (σ := Nat) 5 #[true, true, false, true, true, false, false, true, false, false] (fun s_ => [(13, .pointer (some ⟨s_, 0, none⟩))]) (fun s_ w' => (w'.cell? ⟨gb328, 0, none⟩ = some (.int .i64 a0_0) ∧ w'.cell? ⟨gb328, 1, none⟩ = some (.int .i64 a0_1) ∧ w'.cell? ⟨gb328, 2, none⟩ = some (.slice A0_2 l0_2.length c0_2) ∧ w'.cell? ⟨gb329, 0, none⟩ = some (.int .i64 a1_0) ∧ w'.cell? ⟨gb329, 1, none⟩ = some (.int .i64 a1_1) ∧ w'.cell? ⟨gb329, 2, none⟩ = some (.slice A1_2 l1_2.length c1_2)) ∧ (w'.heap[gb328]? = some (.cells #[.int .i64 a0_0, .int .i64 a0_1, .slice A0_2 l0_2.length c0_2] 24 (0, 0))) ∧ (w'.heap[gb329]? = some (.cells #[.int .i64 a1_0, .int .i64 a1_1, .slice A1_2 l1_2.length c1_2] 24 (0, 0))) ∧ (w'.heap[gb330]? = some (.cells #[.int .i64 a4_0, .int .i64 a4_1, .int .i64 a4_2, .int .i64 a4_3, .int .i64 a4_4, .int .i64 a4_5, .int .i64 a4_6, .int .i64 a4_7] 25 (0, 0))) ∧ (w'.heap[s_]? = some (.cells #[.int .i64 0, .int .i64 0, .slice none 0 0] 24 (0, 0))) ∧ (w.heap.size ≤ s_) ∧ (w.heap.size ≤ s_) ∧ (gb328 ≠ s_) ∧ (s_ ≠ gb328) ∧ (gb329 ≠ s_) ∧ (s_ ≠ gb329) ∧ (gb330 ≠ s_) ∧ (s_ ≠ gb330) ∧ (Below w.heap.size w w')) ?_ ?_
                     rotate_left
                     · intro hJ7
                       refine three_ (i := 2) (j := 6) (k := 7) (Ni := some 26) (Nj := some 12) (Nk := some 13) #[true, true, true, true, true, false, false, false, false, false] #[true, true, false, true, true, false, true, false, false, false] #[true, true, false, true, true, false, false, true, false, false] rfl rfl rfl rfl rfl rfl (three_of HT_.out (by kernel_rfl)) (by decide) (by decide) (by decide) (fun K hK => ?_) (fun K hK => ?_) (fun K hK => ?_)
                       · skip
                         refine goes_ Try.func22 (by kernel_rfl) rfl #[.int .i64 9, .agg #[.int .i64 a0_0, .int .i64 a0_1, .slice A0_2 l0_2.length c0_2], .agg #[.int .i64 a1_0, .int .i64 a1_1, .slice A1_2 l1_2.length c1_2]] (by rfl) rfl rfl (by (try simp only [List.map_toArray, List.map_cons, List.map_nil]); rfl) ?_
                         with_reducible refine (formelaw14_two.calls 9 a0_0 a0_1 (fun k_ => k_ < w.heap.size) _ _ l0_2 a1_0 a1_1 (fun k_ => k_ < w.heap.size) _ _ l1_2 t332 t333 t334 _ ?side1 ?side2 A7.out).mono ?_
                         (case side1 => exact Kd.V_mk HC0_2.out (Kd.F_below (Kd.C_F k24_heap HR0_2.out) HB.out))
                         (case side2 => exact Kd.V_mk HC1_2.out (Kd.F_below (Kd.C_F k24_heap HR1_2.out) HB.out))
                         rintro e w18 ⟨v335, rfl, ho0, hb⟩
                         refine ⟨_, rfl, ?_⟩
                         have HO336 := Aside0.mk (Kd.N_lower (Kd.N_mono (ok' := fun k_ => k_ ≠ gb328 ∧ k_ ≠ gb329 ∧ k_ ≠ gb330) ho0 (fun k_ hk_ => ⟨Or.elim hk_ (fun hs_ => Or.elim hs_ (fun hs_ => fun e_ => Nat.not_le.2 hs_ (by rw [e_]; exact GW328.out)) (fun hs_ => fun e_ => Nat.not_le.2 hs_ (by rw [e_]; exact GW328.out))) (fun hn_ => (Kd.freshB BK328.out k_ hn_)), Or.elim hk_ (fun hs_ => Or.elim hs_ (fun hs_ => fun e_ => Nat.not_le.2 hs_ (by rw [e_]; exact GW329.out)) (fun hs_ => fun e_ => Nat.not_le.2 hs_ (by rw [e_]; exact GW329.out))) (fun hn_ => (Kd.freshB BK329.out k_ hn_)), Or.elim hk_ (fun hs_ => Or.elim hs_ (fun hs_ => fun e_ => Nat.not_le.2 hs_ (by rw [e_]; exact GW330.out)) (fun hs_ => fun e_ => Nat.not_le.2 hs_ (by rw [e_]; exact GW330.out))) (fun hn_ => (Kd.freshB BK330.out k_ hn_))⟩)) (below_size HB.out))
                         replace BK328 := Aside0.mk (blk_below BK328.out hb)
                         replace BK329 := Aside0.mk (blk_below BK329.out hb)
                         replace BK330 := Aside0.mk (blk_below BK330.out hb)
                         replace HB := Aside0.mk (below_step HB.out hb)
                         (try clear hb)
                         (try clear ho0)
                         refine hK.out _ _ ⟨(blk_cell BK328.out 0).trans rfl, (blk_cell BK328.out 1).trans rfl, (blk_cell BK328.out 2).trans rfl, (blk_cell BK329.out 0).trans rfl, (blk_cell BK329.out 1).trans rfl, (blk_cell BK329.out 2).trans rfl⟩ (fun hHeld => ?_)
                         clear hK K
                         refine norm_ (a' := ?_) ?_ ?_
                         rotate_left
                         · show Act.put _ (some 26) _ = _
                           simp only [Act.put, List.setIfInBounds_toArray, List.set_cons_zero, List.set_cons_succ, i64_w, i32_w]
                           rfl
                         exact norm_ (by (simp only [putAll, Act.put, List.setIfInBounds_toArray, List.set_cons_zero, List.set_cons_succ]; done)) (hJ2 (v335) _ ⟨hHeld, HO336.out, BK328.out, BK329.out, BK330.out, HB.out⟩)
                       · skip
                         refine box_step ?hg (N := 12) ?hd (cs := #[.int .i64 0, .int .i64 0, .slice none 0 0]) (t := 24) ?hr ?_; (case hd => rfl); (case hg => rfl); (case hr => (go_simp; done))
                         intro gb342 hg w18 hbox hb
                         have BK342 := Aside0.mk (hbox)
                         have GW342 := Aside0.mk ((by rw [hg]; exact (below_size HB.out) : w.heap.size ≤ gb342))
                         have GE342 := Aside0.mk ((by rw [hg]; exact (below_size HB.out) : w.heap.size ≤ gb342))
                         replace HB := Aside0.mk (below_step HB.out hb)
                         have NB328_342 := Aside0.mk ((by rw [hg]; exact Nat.ne_of_lt (blk_lt BK328.out) : gb328 ≠ gb342))
                         have NB342_328 := Aside0.mk ((by rw [hg]; exact Nat.ne_of_gt (blk_lt BK328.out) : gb342 ≠ gb328))
                         replace BK328 := Aside0.mk (blk_below BK328.out hb)
                         have NB329_342 := Aside0.mk ((by rw [hg]; exact Nat.ne_of_lt (blk_lt BK329.out) : gb329 ≠ gb342))
                         have NB342_329 := Aside0.mk ((by rw [hg]; exact Nat.ne_of_gt (blk_lt BK329.out) : gb342 ≠ gb329))
                         replace BK329 := Aside0.mk (blk_below BK329.out hb)
                         have NB330_342 := Aside0.mk ((by rw [hg]; exact Nat.ne_of_lt (blk_lt BK330.out) : gb330 ≠ gb342))
                         have NB342_330 := Aside0.mk ((by rw [hg]; exact Nat.ne_of_gt (blk_lt BK330.out) : gb342 ≠ gb330))
                         replace BK330 := Aside0.mk (blk_below BK330.out hb)
                         clear hb hbox hg
                         refine hK.out _ _ ⟨(blk_cell BK328.out 0).trans rfl, (blk_cell BK328.out 1).trans rfl, (blk_cell BK328.out 2).trans rfl, (blk_cell BK329.out 0).trans rfl, (blk_cell BK329.out 1).trans rfl, (blk_cell BK329.out 2).trans rfl⟩ (fun hHeld => ?_)
                         clear hK K
                         refine norm_ (a' := ?_) ?_ ?_
                         rotate_left
                         · show Act.put _ (some 12) _ = _
                           simp only [Act.put, List.setIfInBounds_toArray, List.set_cons_zero, List.set_cons_succ, i64_w, i32_w]
                           rfl
                         exact norm_ (by (simp only [putAll, Act.put, List.setIfInBounds_toArray, List.set_cons_zero, List.set_cons_succ]; done)) (hJ6 (gb342) _ ⟨hHeld, BK328.out, BK329.out, BK330.out, BK342.out, GW342.out, GE342.out, NB328_342.out, NB342_328.out, NB329_342.out, NB342_329.out, NB330_342.out, NB342_330.out, HB.out⟩)
                       · skip
                         refine box_step ?hg (N := 13) ?hd (cs := #[.int .i64 0, .int .i64 0, .slice none 0 0]) (t := 24) ?hr ?_; (case hd => rfl); (case hg => rfl); (case hr => (go_simp; done))
                         intro gb343 hg w18 hbox hb
                         have BK343 := Aside0.mk (hbox)
                         have GW343 := Aside0.mk ((by rw [hg]; exact (below_size HB.out) : w.heap.size ≤ gb343))
                         have GE343 := Aside0.mk ((by rw [hg]; exact (below_size HB.out) : w.heap.size ≤ gb343))
                         replace HB := Aside0.mk (below_step HB.out hb)
                         have NB328_343 := Aside0.mk ((by rw [hg]; exact Nat.ne_of_lt (blk_lt BK328.out) : gb328 ≠ gb343))
                         have NB343_328 := Aside0.mk ((by rw [hg]; exact Nat.ne_of_gt (blk_lt BK328.out) : gb343 ≠ gb328))
                         replace BK328 := Aside0.mk (blk_below BK328.out hb)
                         have NB329_343 := Aside0.mk ((by rw [hg]; exact Nat.ne_of_lt (blk_lt BK329.out) : gb329 ≠ gb343))
                         have NB343_329 := Aside0.mk ((by rw [hg]; exact Nat.ne_of_gt (blk_lt BK329.out) : gb343 ≠ gb329))
                         replace BK329 := Aside0.mk (blk_below BK329.out hb)
                         have NB330_343 := Aside0.mk ((by rw [hg]; exact Nat.ne_of_lt (blk_lt BK330.out) : gb330 ≠ gb343))
                         have NB343_330 := Aside0.mk ((by rw [hg]; exact Nat.ne_of_gt (blk_lt BK330.out) : gb343 ≠ gb330))
                         replace BK330 := Aside0.mk (blk_below BK330.out hb)
                         clear hb hbox hg
                         refine hK.out _ _ ⟨(blk_cell BK328.out 0).trans rfl, (blk_cell BK328.out 1).trans rfl, (blk_cell BK328.out 2).trans rfl, (blk_cell BK329.out 0).trans rfl, (blk_cell BK329.out 1).trans rfl, (blk_cell BK329.out 2).trans rfl⟩ (fun hHeld => ?_)
                         clear hK K
                         refine norm_ (a' := ?_) ?_ ?_
                         rotate_left
                         · show Act.put _ (some 13) _ = _
                           simp only [Act.put, List.setIfInBounds_toArray, List.set_cons_zero, List.set_cons_succ, i64_w, i32_w]
                           rfl
                         exact norm_ (by (simp only [putAll, Act.put, List.setIfInBounds_toArray, List.set_cons_zero, List.set_cons_succ]; done)) (hJ7 (gb343) _ ⟨hHeld, BK328.out, BK329.out, BK330.out, BK343.out, GW343.out, GE343.out, NB328_343.out, NB343_328.out, NB329_343.out, NB343_329.out, NB330_343.out, NB343_330.out, HB.out⟩)
                     · skip
                       rintro gb343 w19 ⟨hS_, h0_, h1_, h2_, h3_, h4_, h5_, h6_, h7_, h8_, h9_, h10_, h11_, h12_⟩
                       replace BK328 : Aside0 (w19.heap[gb328]? = some (.cells #[.int .i64 a0_0, .int .i64 a0_1, .slice A0_2 l0_2.length c0_2] 24 (0, 0))) := ⟨h0_⟩
                       replace BK329 : Aside0 (w19.heap[gb329]? = some (.cells #[.int .i64 a1_0, .int .i64 a1_1, .slice A1_2 l1_2.length c1_2] 24 (0, 0))) := ⟨h1_⟩
                       replace BK330 : Aside0 (w19.heap[gb330]? = some (.cells #[.int .i64 a4_0, .int .i64 a4_1, .int .i64 a4_2, .int .i64 a4_3, .int .i64 a4_4, .int .i64 a4_5, .int .i64 a4_6, .int .i64 a4_7] 25 (0, 0))) := ⟨h2_⟩
                       have BK343 : Aside0 (w19.heap[gb343]? = some (.cells #[.int .i64 0, .int .i64 0, .slice none 0 0] 24 (0, 0))) := ⟨h3_⟩
                       have GW343 : Aside0 (w.heap.size ≤ gb343) := ⟨h4_⟩
                       have GE343 : Aside0 (w.heap.size ≤ gb343) := ⟨h5_⟩
                       have NB328_343 : Aside0 (gb328 ≠ gb343) := ⟨h6_⟩
                       have NB343_328 : Aside0 (gb343 ≠ gb328) := ⟨h7_⟩
                       have NB329_343 : Aside0 (gb329 ≠ gb343) := ⟨h8_⟩
                       have NB343_329 : Aside0 (gb343 ≠ gb329) := ⟨h9_⟩
                       have NB330_343 : Aside0 (gb330 ≠ gb343) := ⟨h10_⟩
                       have NB343_330 : Aside0 (gb343 ≠ gb330) := ⟨h11_⟩
                       replace HB : Aside0 (Below w.heap.size w w19) := ⟨h12_⟩
                       clear h0_ h1_ h2_ h3_ h4_ h5_ h6_ h7_ h8_ h9_ h10_ h11_ h12_
                       have hHeld : w19.cell? ⟨gb328, 0, none⟩ = some (.int .i64 a0_0) ∧ w19.cell? ⟨gb328, 1, none⟩ = some (.int .i64 a0_1) ∧ w19.cell? ⟨gb328, 2, none⟩ = some (.slice A0_2 l0_2.length c0_2) ∧ w19.cell? ⟨gb329, 0, none⟩ = some (.int .i64 a1_0) ∧ w19.cell? ⟨gb329, 1, none⟩ = some (.int .i64 a1_1) ∧ w19.cell? ⟨gb329, 2, none⟩ = some (.slice A1_2 l1_2.length c1_2) := hS_
                       refine norm_ (a' := ?_) ?_ ?_
                       rotate_left
                       · simp only [putAll, Act.put, List.setIfInBounds_toArray, List.set_cons_zero, List.set_cons_succ]
                         rfl
                       refine two_ (i := 2) (j := 6) (Ni := some 26) (Nj := some 12) #[true, true, true, true, true, false, false, true, false, false] #[true, true, false, true, true, false, true, true, false, false] rfl rfl rfl rfl (two_of HT_.out (by kernel_rfl)) (by decide) (by decide) (fun K hK => ?_) (fun K hK => ?_)
                       · skip
                         refine goes_ Try.func22 (by kernel_rfl) rfl #[.int .i64 9, .agg #[.int .i64 a0_0, .int .i64 a0_1, .slice A0_2 l0_2.length c0_2], .agg #[.int .i64 a1_0, .int .i64 a1_1, .slice A1_2 l1_2.length c1_2]] (by rfl) rfl rfl (by (try simp only [List.map_toArray, List.map_cons, List.map_nil]); rfl) ?_
                         with_reducible refine (formelaw14_two.calls 9 a0_0 a0_1 (fun k_ => k_ < w.heap.size) _ _ l0_2 a1_0 a1_1 (fun k_ => k_ < w.heap.size) _ _ l1_2 t332 t333 t334 _ ?side1 ?side2 A7.out).mono ?_
                         (case side1 => exact Kd.V_mk HC0_2.out (Kd.F_below (Kd.C_F k24_heap HR0_2.out) HB.out))
                         (case side2 => exact Kd.V_mk HC1_2.out (Kd.F_below (Kd.C_F k24_heap HR1_2.out) HB.out))
                         rintro e w20 ⟨v335, rfl, ho0, hb⟩
                         refine ⟨_, rfl, ?_⟩
                         have HO336 := Aside0.mk (Kd.N_lower (Kd.N_mono (ok' := fun k_ => k_ ≠ gb328 ∧ k_ ≠ gb329 ∧ k_ ≠ gb330 ∧ k_ ≠ gb343) ho0 (fun k_ hk_ => ⟨Or.elim hk_ (fun hs_ => Or.elim hs_ (fun hs_ => fun e_ => Nat.not_le.2 hs_ (by rw [e_]; exact GW328.out)) (fun hs_ => fun e_ => Nat.not_le.2 hs_ (by rw [e_]; exact GW328.out))) (fun hn_ => (Kd.freshB BK328.out k_ hn_)), Or.elim hk_ (fun hs_ => Or.elim hs_ (fun hs_ => fun e_ => Nat.not_le.2 hs_ (by rw [e_]; exact GW329.out)) (fun hs_ => fun e_ => Nat.not_le.2 hs_ (by rw [e_]; exact GW329.out))) (fun hn_ => (Kd.freshB BK329.out k_ hn_)), Or.elim hk_ (fun hs_ => Or.elim hs_ (fun hs_ => fun e_ => Nat.not_le.2 hs_ (by rw [e_]; exact GW330.out)) (fun hs_ => fun e_ => Nat.not_le.2 hs_ (by rw [e_]; exact GW330.out))) (fun hn_ => (Kd.freshB BK330.out k_ hn_)), Or.elim hk_ (fun hs_ => Or.elim hs_ (fun hs_ => fun e_ => Nat.not_le.2 hs_ (by rw [e_]; exact GW343.out)) (fun hs_ => fun e_ => Nat.not_le.2 hs_ (by rw [e_]; exact GW343.out))) (fun hn_ => (Kd.freshB BK343.out k_ hn_))⟩)) (below_size HB.out))
                         replace BK328 := Aside0.mk (blk_below BK328.out hb)
                         replace BK329 := Aside0.mk (blk_below BK329.out hb)
                         replace BK330 := Aside0.mk (blk_below BK330.out hb)
                         replace BK343 := Aside0.mk (blk_below BK343.out hb)
                         replace HB := Aside0.mk (below_step HB.out hb)
                         (try clear hb)
                         (try clear ho0)
                         refine hK.out _ _ ⟨(blk_cell BK328.out 0).trans rfl, (blk_cell BK328.out 1).trans rfl, (blk_cell BK328.out 2).trans rfl, (blk_cell BK329.out 0).trans rfl, (blk_cell BK329.out 1).trans rfl, (blk_cell BK329.out 2).trans rfl⟩ (fun hHeld => ?_)
                         clear hK K
                         refine norm_ (a' := ?_) ?_ ?_
                         rotate_left
                         · show Act.put _ (some 26) _ = _
                           simp only [Act.put, List.setIfInBounds_toArray, List.set_cons_zero, List.set_cons_succ, i64_w, i32_w]
                           rfl
                         exact norm_ (by (simp only [putAll, Act.put, List.setIfInBounds_toArray, List.set_cons_zero, List.set_cons_succ]; done)) (hJ2_7 (v335, gb343) _ ⟨hHeld, HO336.out, BK328.out, BK329.out, BK330.out, BK343.out, GW343.out, GE343.out, NB328_343.out, NB343_328.out, NB329_343.out, NB343_329.out, NB330_343.out, NB343_330.out, HB.out⟩)
                       · skip
                         refine box_step ?hg (N := 12) ?hd (cs := #[.int .i64 0, .int .i64 0, .slice none 0 0]) (t := 24) ?hr ?_; (case hd => rfl); (case hg => rfl); (case hr => (go_simp; done))
                         intro gb342 hg w20 hbox hb
                         have BK342 := Aside0.mk (hbox)
                         have GW342 := Aside0.mk ((by rw [hg]; exact (below_size HB.out) : w.heap.size ≤ gb342))
                         have GE342 := Aside0.mk ((by rw [hg]; exact (below_size HB.out) : w.heap.size ≤ gb342))
                         replace HB := Aside0.mk (below_step HB.out hb)
                         have NB328_342 := Aside0.mk ((by rw [hg]; exact Nat.ne_of_lt (blk_lt BK328.out) : gb328 ≠ gb342))
                         have NB342_328 := Aside0.mk ((by rw [hg]; exact Nat.ne_of_gt (blk_lt BK328.out) : gb342 ≠ gb328))
                         replace BK328 := Aside0.mk (blk_below BK328.out hb)
                         have NB329_342 := Aside0.mk ((by rw [hg]; exact Nat.ne_of_lt (blk_lt BK329.out) : gb329 ≠ gb342))
                         have NB342_329 := Aside0.mk ((by rw [hg]; exact Nat.ne_of_gt (blk_lt BK329.out) : gb342 ≠ gb329))
                         replace BK329 := Aside0.mk (blk_below BK329.out hb)
                         have NB330_342 := Aside0.mk ((by rw [hg]; exact Nat.ne_of_lt (blk_lt BK330.out) : gb330 ≠ gb342))
                         have NB342_330 := Aside0.mk ((by rw [hg]; exact Nat.ne_of_gt (blk_lt BK330.out) : gb342 ≠ gb330))
                         replace BK330 := Aside0.mk (blk_below BK330.out hb)
                         have NB343_342 := Aside0.mk ((by rw [hg]; exact Nat.ne_of_lt (blk_lt BK343.out) : gb343 ≠ gb342))
                         have NB342_343 := Aside0.mk ((by rw [hg]; exact Nat.ne_of_gt (blk_lt BK343.out) : gb342 ≠ gb343))
                         replace BK343 := Aside0.mk (blk_below BK343.out hb)
                         clear hb hbox hg
                         refine hK.out _ _ ⟨(blk_cell BK328.out 0).trans rfl, (blk_cell BK328.out 1).trans rfl, (blk_cell BK328.out 2).trans rfl, (blk_cell BK329.out 0).trans rfl, (blk_cell BK329.out 1).trans rfl, (blk_cell BK329.out 2).trans rfl⟩ (fun hHeld => ?_)
                         clear hK K
                         refine norm_ (a' := ?_) ?_ ?_
                         rotate_left
                         · show Act.put _ (some 12) _ = _
                           simp only [Act.put, List.setIfInBounds_toArray, List.set_cons_zero, List.set_cons_succ, i64_w, i32_w]
                           rfl
                         exact norm_ (by (simp only [putAll, Act.put, List.setIfInBounds_toArray, List.set_cons_zero, List.set_cons_succ]; done)) (hJ6_7 (gb342, gb343) _ ⟨hHeld, BK328.out, BK329.out, BK330.out, BK342.out, BK343.out, GW342.out, GE342.out, NB328_342.out, NB342_328.out, NB329_342.out, NB342_329.out, NB330_342.out, NB342_330.out, NB343_342.out, NB342_343.out, GW343.out, GE343.out, NB328_343.out, NB343_328.out, NB329_343.out, NB343_329.out, NB330_343.out, NB343_330.out, HB.out⟩)
                   · skip
                     rintro gb342 w19 ⟨hS_, h0_, h1_, h2_, h3_, h4_, h5_, h6_, h7_, h8_, h9_, h10_, h11_, h12_⟩
                     replace BK328 : Aside0 (w19.heap[gb328]? = some (.cells #[.int .i64 a0_0, .int .i64 a0_1, .slice A0_2 l0_2.length c0_2] 24 (0, 0))) := ⟨h0_⟩
                     replace BK329 : Aside0 (w19.heap[gb329]? = some (.cells #[.int .i64 a1_0, .int .i64 a1_1, .slice A1_2 l1_2.length c1_2] 24 (0, 0))) := ⟨h1_⟩
                     replace BK330 : Aside0 (w19.heap[gb330]? = some (.cells #[.int .i64 a4_0, .int .i64 a4_1, .int .i64 a4_2, .int .i64 a4_3, .int .i64 a4_4, .int .i64 a4_5, .int .i64 a4_6, .int .i64 a4_7] 25 (0, 0))) := ⟨h2_⟩
                     have BK342 : Aside0 (w19.heap[gb342]? = some (.cells #[.int .i64 0, .int .i64 0, .slice none 0 0] 24 (0, 0))) := ⟨h3_⟩
                     have GW342 : Aside0 (w.heap.size ≤ gb342) := ⟨h4_⟩
                     have GE342 : Aside0 (w.heap.size ≤ gb342) := ⟨h5_⟩
                     have NB328_342 : Aside0 (gb328 ≠ gb342) := ⟨h6_⟩
                     have NB342_328 : Aside0 (gb342 ≠ gb328) := ⟨h7_⟩
                     have NB329_342 : Aside0 (gb329 ≠ gb342) := ⟨h8_⟩
                     have NB342_329 : Aside0 (gb342 ≠ gb329) := ⟨h9_⟩
                     have NB330_342 : Aside0 (gb330 ≠ gb342) := ⟨h10_⟩
                     have NB342_330 : Aside0 (gb342 ≠ gb330) := ⟨h11_⟩
                     replace HB : Aside0 (Below w.heap.size w w19) := ⟨h12_⟩
                     clear h0_ h1_ h2_ h3_ h4_ h5_ h6_ h7_ h8_ h9_ h10_ h11_ h12_
                     have hHeld : w19.cell? ⟨gb328, 0, none⟩ = some (.int .i64 a0_0) ∧ w19.cell? ⟨gb328, 1, none⟩ = some (.int .i64 a0_1) ∧ w19.cell? ⟨gb328, 2, none⟩ = some (.slice A0_2 l0_2.length c0_2) ∧ w19.cell? ⟨gb329, 0, none⟩ = some (.int .i64 a1_0) ∧ w19.cell? ⟨gb329, 1, none⟩ = some (.int .i64 a1_1) ∧ w19.cell? ⟨gb329, 2, none⟩ = some (.slice A1_2 l1_2.length c1_2) := hS_
                     refine norm_ (a' := ?_) ?_ ?_
                     rotate_left
                     · simp only [putAll, Act.put, List.setIfInBounds_toArray, List.set_cons_zero, List.set_cons_succ]
                       rfl
                     refine two_ (i := 2) (j := 7) (Ni := some 26) (Nj := some 13) #[true, true, true, true, true, false, true, false, false, false] #[true, true, false, true, true, false, true, true, false, false] rfl rfl rfl rfl (two_of HT_.out (by kernel_rfl)) (by decide) (by decide) (fun K hK => ?_) (fun K hK => ?_)
                     · skip
                       refine goes_ Try.func22 (by kernel_rfl) rfl #[.int .i64 9, .agg #[.int .i64 a0_0, .int .i64 a0_1, .slice A0_2 l0_2.length c0_2], .agg #[.int .i64 a1_0, .int .i64 a1_1, .slice A1_2 l1_2.length c1_2]] (by rfl) rfl rfl (by (try simp only [List.map_toArray, List.map_cons, List.map_nil]); rfl) ?_
                       with_reducible refine (formelaw14_two.calls 9 a0_0 a0_1 (fun k_ => k_ < w.heap.size) _ _ l0_2 a1_0 a1_1 (fun k_ => k_ < w.heap.size) _ _ l1_2 t332 t333 t334 _ ?side1 ?side2 A7.out).mono ?_
                       (case side1 => exact Kd.V_mk HC0_2.out (Kd.F_below (Kd.C_F k24_heap HR0_2.out) HB.out))
                       (case side2 => exact Kd.V_mk HC1_2.out (Kd.F_below (Kd.C_F k24_heap HR1_2.out) HB.out))
                       rintro e w20 ⟨v335, rfl, ho0, hb⟩
                       refine ⟨_, rfl, ?_⟩
                       have HO336 := Aside0.mk (Kd.N_lower (Kd.N_mono (ok' := fun k_ => k_ ≠ gb328 ∧ k_ ≠ gb329 ∧ k_ ≠ gb330 ∧ k_ ≠ gb342) ho0 (fun k_ hk_ => ⟨Or.elim hk_ (fun hs_ => Or.elim hs_ (fun hs_ => fun e_ => Nat.not_le.2 hs_ (by rw [e_]; exact GW328.out)) (fun hs_ => fun e_ => Nat.not_le.2 hs_ (by rw [e_]; exact GW328.out))) (fun hn_ => (Kd.freshB BK328.out k_ hn_)), Or.elim hk_ (fun hs_ => Or.elim hs_ (fun hs_ => fun e_ => Nat.not_le.2 hs_ (by rw [e_]; exact GW329.out)) (fun hs_ => fun e_ => Nat.not_le.2 hs_ (by rw [e_]; exact GW329.out))) (fun hn_ => (Kd.freshB BK329.out k_ hn_)), Or.elim hk_ (fun hs_ => Or.elim hs_ (fun hs_ => fun e_ => Nat.not_le.2 hs_ (by rw [e_]; exact GW330.out)) (fun hs_ => fun e_ => Nat.not_le.2 hs_ (by rw [e_]; exact GW330.out))) (fun hn_ => (Kd.freshB BK330.out k_ hn_)), Or.elim hk_ (fun hs_ => Or.elim hs_ (fun hs_ => fun e_ => Nat.not_le.2 hs_ (by rw [e_]; exact GW342.out)) (fun hs_ => fun e_ => Nat.not_le.2 hs_ (by rw [e_]; exact GW342.out))) (fun hn_ => (Kd.freshB BK342.out k_ hn_))⟩)) (below_size HB.out))
                       replace BK328 := Aside0.mk (blk_below BK328.out hb)
                       replace BK329 := Aside0.mk (blk_below BK329.out hb)
                       replace BK330 := Aside0.mk (blk_below BK330.out hb)
                       replace BK342 := Aside0.mk (blk_below BK342.out hb)
                       replace HB := Aside0.mk (below_step HB.out hb)
                       (try clear hb)
                       (try clear ho0)
                       refine hK.out _ _ ⟨(blk_cell BK328.out 0).trans rfl, (blk_cell BK328.out 1).trans rfl, (blk_cell BK328.out 2).trans rfl, (blk_cell BK329.out 0).trans rfl, (blk_cell BK329.out 1).trans rfl, (blk_cell BK329.out 2).trans rfl⟩ (fun hHeld => ?_)
                       clear hK K
                       refine norm_ (a' := ?_) ?_ ?_
                       rotate_left
                       · show Act.put _ (some 26) _ = _
                         simp only [Act.put, List.setIfInBounds_toArray, List.set_cons_zero, List.set_cons_succ, i64_w, i32_w]
                         rfl
                       exact norm_ (by (simp only [putAll, Act.put, List.setIfInBounds_toArray, List.set_cons_zero, List.set_cons_succ]; done)) (hJ2_6 (v335, gb342) _ ⟨hHeld, HO336.out, BK328.out, BK329.out, BK330.out, BK342.out, GW342.out, GE342.out, NB328_342.out, NB342_328.out, NB329_342.out, NB342_329.out, NB330_342.out, NB342_330.out, HB.out⟩)
                     · skip
                       refine box_step ?hg (N := 13) ?hd (cs := #[.int .i64 0, .int .i64 0, .slice none 0 0]) (t := 24) ?hr ?_; (case hd => rfl); (case hg => rfl); (case hr => (go_simp; done))
                       intro gb343 hg w20 hbox hb
                       have BK343 := Aside0.mk (hbox)
                       have GW343 := Aside0.mk ((by rw [hg]; exact (below_size HB.out) : w.heap.size ≤ gb343))
                       have GE343 := Aside0.mk ((by rw [hg]; exact (below_size HB.out) : w.heap.size ≤ gb343))
                       replace HB := Aside0.mk (below_step HB.out hb)
                       have NB328_343 := Aside0.mk ((by rw [hg]; exact Nat.ne_of_lt (blk_lt BK328.out) : gb328 ≠ gb343))
                       have NB343_328 := Aside0.mk ((by rw [hg]; exact Nat.ne_of_gt (blk_lt BK328.out) : gb343 ≠ gb328))
                       replace BK328 := Aside0.mk (blk_below BK328.out hb)
                       have NB329_343 := Aside0.mk ((by rw [hg]; exact Nat.ne_of_lt (blk_lt BK329.out) : gb329 ≠ gb343))
                       have NB343_329 := Aside0.mk ((by rw [hg]; exact Nat.ne_of_gt (blk_lt BK329.out) : gb343 ≠ gb329))
                       replace BK329 := Aside0.mk (blk_below BK329.out hb)
                       have NB330_343 := Aside0.mk ((by rw [hg]; exact Nat.ne_of_lt (blk_lt BK330.out) : gb330 ≠ gb343))
                       have NB343_330 := Aside0.mk ((by rw [hg]; exact Nat.ne_of_gt (blk_lt BK330.out) : gb343 ≠ gb330))
                       replace BK330 := Aside0.mk (blk_below BK330.out hb)
                       have NB342_343 := Aside0.mk ((by rw [hg]; exact Nat.ne_of_lt (blk_lt BK342.out) : gb342 ≠ gb343))
                       have NB343_342 := Aside0.mk ((by rw [hg]; exact Nat.ne_of_gt (blk_lt BK342.out) : gb343 ≠ gb342))
                       replace BK342 := Aside0.mk (blk_below BK342.out hb)
                       clear hb hbox hg
                       refine hK.out _ _ ⟨(blk_cell BK328.out 0).trans rfl, (blk_cell BK328.out 1).trans rfl, (blk_cell BK328.out 2).trans rfl, (blk_cell BK329.out 0).trans rfl, (blk_cell BK329.out 1).trans rfl, (blk_cell BK329.out 2).trans rfl⟩ (fun hHeld => ?_)
                       clear hK K
                       refine norm_ (a' := ?_) ?_ ?_
                       rotate_left
                       · show Act.put _ (some 13) _ = _
                         simp only [Act.put, List.setIfInBounds_toArray, List.set_cons_zero, List.set_cons_succ, i64_w, i32_w]
                         rfl
                       exact norm_ (by (simp only [putAll, Act.put, List.setIfInBounds_toArray, List.set_cons_zero, List.set_cons_succ]; done)) (hJ6_7 (gb342, gb343) _ ⟨hHeld, BK328.out, BK329.out, BK330.out, BK342.out, BK343.out, GW342.out, GE342.out, NB328_342.out, NB342_328.out, NB329_342.out, NB342_329.out, NB330_342.out, NB342_330.out, NB343_342.out, NB342_343.out, GW343.out, GE343.out, NB328_343.out, NB343_328.out, NB329_343.out, NB343_329.out, NB330_343.out, NB343_330.out, HB.out⟩)
                 · skip
                   rintro v335 w19 ⟨hS_, h0_, h1_, h2_, h3_, h4_⟩
                   have HO336 : Aside0 (Kd.N k24 24 w19 w.heap.size (fun k_ => k_ ≠ gb328 ∧ k_ ≠ gb329 ∧ k_ ≠ gb330) v335 t334) := ⟨h0_⟩
                   replace BK328 : Aside0 (w19.heap[gb328]? = some (.cells #[.int .i64 a0_0, .int .i64 a0_1, .slice A0_2 l0_2.length c0_2] 24 (0, 0))) := ⟨h1_⟩
                   replace BK329 : Aside0 (w19.heap[gb329]? = some (.cells #[.int .i64 a1_0, .int .i64 a1_1, .slice A1_2 l1_2.length c1_2] 24 (0, 0))) := ⟨h2_⟩
                   replace BK330 : Aside0 (w19.heap[gb330]? = some (.cells #[.int .i64 a4_0, .int .i64 a4_1, .int .i64 a4_2, .int .i64 a4_3, .int .i64 a4_4, .int .i64 a4_5, .int .i64 a4_6, .int .i64 a4_7] 25 (0, 0))) := ⟨h3_⟩
                   replace HB : Aside0 (Below w.heap.size w w19) := ⟨h4_⟩
                   clear h0_ h1_ h2_ h3_ h4_
                   have hHeld : w19.cell? ⟨gb328, 0, none⟩ = some (.int .i64 a0_0) ∧ w19.cell? ⟨gb328, 1, none⟩ = some (.int .i64 a0_1) ∧ w19.cell? ⟨gb328, 2, none⟩ = some (.slice A0_2 l0_2.length c0_2) ∧ w19.cell? ⟨gb329, 0, none⟩ = some (.int .i64 a1_0) ∧ w19.cell? ⟨gb329, 1, none⟩ = some (.int .i64 a1_1) ∧ w19.cell? ⟨gb329, 2, none⟩ = some (.slice A1_2 l1_2.length c1_2) := hS_
                   refine norm_ (a' := ?_) ?_ ?_
                   rotate_left
                   · simp only [putAll, Act.put, List.setIfInBounds_toArray, List.set_cons_zero, List.set_cons_succ]
                     rfl
                   refine three_ (i := 5) (j := 6) (k := 7) (Ni := some 29) (Nj := some 12) (Nk := some 13) #[true, true, true, true, true, true, false, false, false, false] #[true, true, true, true, true, false, true, false, false, false] #[true, true, true, true, true, false, false, true, false, false] rfl rfl rfl rfl rfl rfl (three_of HT_.out (by kernel_rfl)) (by decide) (by decide) (by decide) (fun K hK => ?_) (fun K hK => ?_) (fun K hK => ?_)
                   · skip
                     refine goes_ Try.func22 (by kernel_rfl) rfl #[.int .i64 10, .agg #[.int .i64 a0_0, .int .i64 a0_1, .slice A0_2 l0_2.length c0_2], .agg #[.int .i64 a1_0, .int .i64 a1_1, .slice A1_2 l1_2.length c1_2]] (by rfl) rfl rfl (by (try simp only [List.map_toArray, List.map_cons, List.map_nil]); rfl) ?_
                     with_reducible refine (formelaw14_two.calls 10 a0_0 a0_1 (fun k_ => k_ < w.heap.size) _ _ l0_2 a1_0 a1_1 (fun k_ => k_ < w.heap.size) _ _ l1_2 t337 t338 t339 _ ?side1 ?side2 A8.out).mono ?_
                     (case side1 => exact Kd.V_mk HC0_2.out (Kd.F_below (Kd.C_F k24_heap HR0_2.out) HB.out))
                     (case side2 => exact Kd.V_mk HC1_2.out (Kd.F_below (Kd.C_F k24_heap HR1_2.out) HB.out))
                     rintro e w20 ⟨v340, rfl, ho0, hb⟩
                     refine ⟨_, rfl, ?_⟩
                     have HO341 := Aside0.mk (Kd.N_lower (Kd.N_mono (ok' := fun k_ => some k_ ≠ (v335 : Value).ownBlock ∧ k_ ≠ gb328 ∧ k_ ≠ gb329 ∧ k_ ≠ gb330) ho0 (fun k_ hk_ => ⟨Or.elim hk_ (fun hs_ => Or.elim hs_ (fun hs_ => fun e_ => Nat.not_le.2 hs_ (Kd.N_base HO336.out k_ e_.symm)) (fun hs_ => fun e_ => Nat.not_le.2 hs_ (Kd.N_base HO336.out k_ e_.symm))) (fun hn_ => (Kd.fresh' (Kd.N_lt HO336.out) k_ hn_)), Or.elim hk_ (fun hs_ => Or.elim hs_ (fun hs_ => fun e_ => Nat.not_le.2 hs_ (by rw [e_]; exact GW328.out)) (fun hs_ => fun e_ => Nat.not_le.2 hs_ (by rw [e_]; exact GW328.out))) (fun hn_ => (Kd.freshB BK328.out k_ hn_)), Or.elim hk_ (fun hs_ => Or.elim hs_ (fun hs_ => fun e_ => Nat.not_le.2 hs_ (by rw [e_]; exact GW329.out)) (fun hs_ => fun e_ => Nat.not_le.2 hs_ (by rw [e_]; exact GW329.out))) (fun hn_ => (Kd.freshB BK329.out k_ hn_)), Or.elim hk_ (fun hs_ => Or.elim hs_ (fun hs_ => fun e_ => Nat.not_le.2 hs_ (by rw [e_]; exact GW330.out)) (fun hs_ => fun e_ => Nat.not_le.2 hs_ (by rw [e_]; exact GW330.out))) (fun hn_ => (Kd.freshB BK330.out k_ hn_))⟩)) (below_size HB.out))
                     replace HO336 := Aside0.mk (Kd.N_elder' HO336.out (Kd.N_base ho0) hb)
                     replace BK328 := Aside0.mk (blk_below BK328.out hb)
                     replace BK329 := Aside0.mk (blk_below BK329.out hb)
                     replace BK330 := Aside0.mk (blk_below BK330.out hb)
                     replace HB := Aside0.mk (below_step HB.out hb)
                     (try clear hb)
                     (try clear ho0)
                     refine hK.out _ _ ⟨(blk_cell BK328.out 0).trans rfl, (blk_cell BK328.out 1).trans rfl, (blk_cell BK328.out 2).trans rfl, (blk_cell BK329.out 0).trans rfl, (blk_cell BK329.out 1).trans rfl, (blk_cell BK329.out 2).trans rfl⟩ (fun hHeld => ?_)
                     clear hK K
                     refine norm_ (a' := ?_) ?_ ?_
                     rotate_left
                     · show Act.put _ (some 29) _ = _
                       simp only [Act.put, List.setIfInBounds_toArray, List.set_cons_zero, List.set_cons_succ, i64_w, i32_w]
                       rfl
                     exact norm_ (by (simp only [putAll, Act.put, List.setIfInBounds_toArray, List.set_cons_zero, List.set_cons_succ]; done)) (hJ2_5 (v335, v340) _ ⟨hHeld, (by (with_reducible repeat (fail)); exact Kd.N_mono HO336.out (fun _ hk => ⟨hk.2, ⟨hk.1.1, ⟨hk.1.2.1, hk.1.2.2⟩⟩⟩)), HO341.out, BK328.out, BK329.out, BK330.out, HB.out⟩)
                   · skip
                     refine box_step ?hg (N := 12) ?hd (cs := #[.int .i64 0, .int .i64 0, .slice none 0 0]) (t := 24) ?hr ?_; (case hd => rfl); (case hg => rfl); (case hr => (go_simp; done))
                     intro gb342 hg w20 hbox hb
                     replace HO336 := Aside0.mk (Kd.N_below (Kd.N_elderB HO336.out gb342 (Nat.le_of_eq hg.symm)) hb)
                     have BK342 := Aside0.mk (hbox)
                     have GW342 := Aside0.mk ((by rw [hg]; exact (below_size HB.out) : w.heap.size ≤ gb342))
                     have GE342 := Aside0.mk ((by rw [hg]; exact (below_size HB.out) : w.heap.size ≤ gb342))
                     replace HB := Aside0.mk (below_step HB.out hb)
                     have NB328_342 := Aside0.mk ((by rw [hg]; exact Nat.ne_of_lt (blk_lt BK328.out) : gb328 ≠ gb342))
                     have NB342_328 := Aside0.mk ((by rw [hg]; exact Nat.ne_of_gt (blk_lt BK328.out) : gb342 ≠ gb328))
                     replace BK328 := Aside0.mk (blk_below BK328.out hb)
                     have NB329_342 := Aside0.mk ((by rw [hg]; exact Nat.ne_of_lt (blk_lt BK329.out) : gb329 ≠ gb342))
                     have NB342_329 := Aside0.mk ((by rw [hg]; exact Nat.ne_of_gt (blk_lt BK329.out) : gb342 ≠ gb329))
                     replace BK329 := Aside0.mk (blk_below BK329.out hb)
                     have NB330_342 := Aside0.mk ((by rw [hg]; exact Nat.ne_of_lt (blk_lt BK330.out) : gb330 ≠ gb342))
                     have NB342_330 := Aside0.mk ((by rw [hg]; exact Nat.ne_of_gt (blk_lt BK330.out) : gb342 ≠ gb330))
                     replace BK330 := Aside0.mk (blk_below BK330.out hb)
                     clear hb hbox hg
                     refine hK.out _ _ ⟨(blk_cell BK328.out 0).trans rfl, (blk_cell BK328.out 1).trans rfl, (blk_cell BK328.out 2).trans rfl, (blk_cell BK329.out 0).trans rfl, (blk_cell BK329.out 1).trans rfl, (blk_cell BK329.out 2).trans rfl⟩ (fun hHeld => ?_)
                     clear hK K
                     refine norm_ (a' := ?_) ?_ ?_
                     rotate_left
                     · show Act.put _ (some 12) _ = _
                       simp only [Act.put, List.setIfInBounds_toArray, List.set_cons_zero, List.set_cons_succ, i64_w, i32_w]
                       rfl
                     exact norm_ (by (simp only [putAll, Act.put, List.setIfInBounds_toArray, List.set_cons_zero, List.set_cons_succ]; done)) (hJ2_6 (v335, gb342) _ ⟨hHeld, (by (with_reducible repeat (fail)); exact Kd.N_mono HO336.out (fun _ hk => ⟨hk.1.1, ⟨hk.1.2.1, ⟨hk.1.2.2, hk.2⟩⟩⟩)), BK328.out, BK329.out, BK330.out, BK342.out, GW342.out, GE342.out, NB328_342.out, NB342_328.out, NB329_342.out, NB342_329.out, NB330_342.out, NB342_330.out, HB.out⟩)
                   · skip
                     refine box_step ?hg (N := 13) ?hd (cs := #[.int .i64 0, .int .i64 0, .slice none 0 0]) (t := 24) ?hr ?_; (case hd => rfl); (case hg => rfl); (case hr => (go_simp; done))
                     intro gb343 hg w20 hbox hb
                     replace HO336 := Aside0.mk (Kd.N_below (Kd.N_elderB HO336.out gb343 (Nat.le_of_eq hg.symm)) hb)
                     have BK343 := Aside0.mk (hbox)
                     have GW343 := Aside0.mk ((by rw [hg]; exact (below_size HB.out) : w.heap.size ≤ gb343))
                     have GE343 := Aside0.mk ((by rw [hg]; exact (below_size HB.out) : w.heap.size ≤ gb343))
                     replace HB := Aside0.mk (below_step HB.out hb)
                     have NB328_343 := Aside0.mk ((by rw [hg]; exact Nat.ne_of_lt (blk_lt BK328.out) : gb328 ≠ gb343))
                     have NB343_328 := Aside0.mk ((by rw [hg]; exact Nat.ne_of_gt (blk_lt BK328.out) : gb343 ≠ gb328))
                     replace BK328 := Aside0.mk (blk_below BK328.out hb)
                     have NB329_343 := Aside0.mk ((by rw [hg]; exact Nat.ne_of_lt (blk_lt BK329.out) : gb329 ≠ gb343))
                     have NB343_329 := Aside0.mk ((by rw [hg]; exact Nat.ne_of_gt (blk_lt BK329.out) : gb343 ≠ gb329))
                     replace BK329 := Aside0.mk (blk_below BK329.out hb)
                     have NB330_343 := Aside0.mk ((by rw [hg]; exact Nat.ne_of_lt (blk_lt BK330.out) : gb330 ≠ gb343))
                     have NB343_330 := Aside0.mk ((by rw [hg]; exact Nat.ne_of_gt (blk_lt BK330.out) : gb343 ≠ gb330))
                     replace BK330 := Aside0.mk (blk_below BK330.out hb)
                     clear hb hbox hg
                     refine hK.out _ _ ⟨(blk_cell BK328.out 0).trans rfl, (blk_cell BK328.out 1).trans rfl, (blk_cell BK328.out 2).trans rfl, (blk_cell BK329.out 0).trans rfl, (blk_cell BK329.out 1).trans rfl, (blk_cell BK329.out 2).trans rfl⟩ (fun hHeld => ?_)
                     clear hK K
                     refine norm_ (a' := ?_) ?_ ?_
                     rotate_left
                     · show Act.put _ (some 13) _ = _
                       simp only [Act.put, List.setIfInBounds_toArray, List.set_cons_zero, List.set_cons_succ, i64_w, i32_w]
                       rfl
                     exact norm_ (by (simp only [putAll, Act.put, List.setIfInBounds_toArray, List.set_cons_zero, List.set_cons_succ]; done)) (hJ2_7 (v335, gb343) _ ⟨hHeld, (by (with_reducible repeat (fail)); exact Kd.N_mono HO336.out (fun _ hk => ⟨hk.1.1, ⟨hk.1.2.1, ⟨hk.1.2.2, hk.2⟩⟩⟩)), BK328.out, BK329.out, BK330.out, BK343.out, GW343.out, GE343.out, NB328_343.out, NB343_328.out, NB329_343.out, NB343_329.out, NB330_343.out, NB343_330.out, HB.out⟩)
               · skip
                 rintro ⟨gb342, gb343⟩ w20 ⟨hS_, h0_, h1_, h2_, h3_, h4_, h5_, h6_, h7_, h8_, h9_, h10_, h11_, h12_, h13_, h14_, h15_, h16_, h17_, h18_, h19_, h20_, h21_, h22_, h23_⟩
                 replace BK328 : Aside0 (w20.heap[gb328]? = some (.cells #[.int .i64 a0_0, .int .i64 a0_1, .slice A0_2 l0_2.length c0_2] 24 (0, 0))) := ⟨h0_⟩
                 replace BK329 : Aside0 (w20.heap[gb329]? = some (.cells #[.int .i64 a1_0, .int .i64 a1_1, .slice A1_2 l1_2.length c1_2] 24 (0, 0))) := ⟨h1_⟩
                 replace BK330 : Aside0 (w20.heap[gb330]? = some (.cells #[.int .i64 a4_0, .int .i64 a4_1, .int .i64 a4_2, .int .i64 a4_3, .int .i64 a4_4, .int .i64 a4_5, .int .i64 a4_6, .int .i64 a4_7] 25 (0, 0))) := ⟨h2_⟩
                 have BK342 : Aside0 (w20.heap[gb342]? = some (.cells #[.int .i64 0, .int .i64 0, .slice none 0 0] 24 (0, 0))) := ⟨h3_⟩
                 have BK343 : Aside0 (w20.heap[gb343]? = some (.cells #[.int .i64 0, .int .i64 0, .slice none 0 0] 24 (0, 0))) := ⟨h4_⟩
                 have GW342 : Aside0 (w.heap.size ≤ gb342) := ⟨h5_⟩
                 have GE342 : Aside0 (w.heap.size ≤ gb342) := ⟨h6_⟩
                 have NB328_342 : Aside0 (gb328 ≠ gb342) := ⟨h7_⟩
                 have NB342_328 : Aside0 (gb342 ≠ gb328) := ⟨h8_⟩
                 have NB329_342 : Aside0 (gb329 ≠ gb342) := ⟨h9_⟩
                 have NB342_329 : Aside0 (gb342 ≠ gb329) := ⟨h10_⟩
                 have NB330_342 : Aside0 (gb330 ≠ gb342) := ⟨h11_⟩
                 have NB342_330 : Aside0 (gb342 ≠ gb330) := ⟨h12_⟩
                 have NB343_342 : Aside0 (gb343 ≠ gb342) := ⟨h13_⟩
                 have NB342_343 : Aside0 (gb342 ≠ gb343) := ⟨h14_⟩
                 have GW343 : Aside0 (w.heap.size ≤ gb343) := ⟨h15_⟩
                 have GE343 : Aside0 (w.heap.size ≤ gb343) := ⟨h16_⟩
                 have NB328_343 : Aside0 (gb328 ≠ gb343) := ⟨h17_⟩
                 have NB343_328 : Aside0 (gb343 ≠ gb328) := ⟨h18_⟩
                 have NB329_343 : Aside0 (gb329 ≠ gb343) := ⟨h19_⟩
                 have NB343_329 : Aside0 (gb343 ≠ gb329) := ⟨h20_⟩
                 have NB330_343 : Aside0 (gb330 ≠ gb343) := ⟨h21_⟩
                 have NB343_330 : Aside0 (gb343 ≠ gb330) := ⟨h22_⟩
                 replace HB : Aside0 (Below w.heap.size w w20) := ⟨h23_⟩
                 clear h0_ h1_ h2_ h3_ h4_ h5_ h6_ h7_ h8_ h9_ h10_ h11_ h12_ h13_ h14_ h15_ h16_ h17_ h18_ h19_ h20_ h21_ h22_ h23_
                 have hHeld : w20.cell? ⟨gb328, 0, none⟩ = some (.int .i64 a0_0) ∧ w20.cell? ⟨gb328, 1, none⟩ = some (.int .i64 a0_1) ∧ w20.cell? ⟨gb328, 2, none⟩ = some (.slice A0_2 l0_2.length c0_2) ∧ w20.cell? ⟨gb329, 0, none⟩ = some (.int .i64 a1_0) ∧ w20.cell? ⟨gb329, 1, none⟩ = some (.int .i64 a1_1) ∧ w20.cell? ⟨gb329, 2, none⟩ = some (.slice A1_2 l1_2.length c1_2) := hS_
                 refine norm_ (a' := ?_) ?_ ?_
                 rotate_left
                 · simp only [putAll, Act.put, List.setIfInBounds_toArray, List.set_cons_zero, List.set_cons_succ]
                   rfl
                 refine one_ (i := 2) (N := some 26) #[true, true, true, true, true, false, true, true, false, false] rfl rfl (one_of HT_.out (by kernel_rfl)) (by decide) (fun K hK => ?_)
                 refine goes_ Try.func22 (by kernel_rfl) rfl #[.int .i64 9, .agg #[.int .i64 a0_0, .int .i64 a0_1, .slice A0_2 l0_2.length c0_2], .agg #[.int .i64 a1_0, .int .i64 a1_1, .slice A1_2 l1_2.length c1_2]] (by rfl) rfl rfl (by (try simp only [List.map_toArray, List.map_cons, List.map_nil]); rfl) ?_
                 with_reducible refine (formelaw14_two.calls 9 a0_0 a0_1 (fun k_ => k_ < w.heap.size) _ _ l0_2 a1_0 a1_1 (fun k_ => k_ < w.heap.size) _ _ l1_2 t332 t333 t334 _ ?side1 ?side2 A7.out).mono ?_
                 (case side1 => exact Kd.V_mk HC0_2.out (Kd.F_below (Kd.C_F k24_heap HR0_2.out) HB.out))
                 (case side2 => exact Kd.V_mk HC1_2.out (Kd.F_below (Kd.C_F k24_heap HR1_2.out) HB.out))
                 rintro e w21 ⟨v335, rfl, ho0, hb⟩
                 refine ⟨_, rfl, ?_⟩
                 have HO336 := Aside0.mk (Kd.N_lower (Kd.N_mono (ok' := fun k_ => k_ ≠ gb328 ∧ k_ ≠ gb329 ∧ k_ ≠ gb330 ∧ k_ ≠ gb342 ∧ k_ ≠ gb343) ho0 (fun k_ hk_ => ⟨Or.elim hk_ (fun hs_ => Or.elim hs_ (fun hs_ => fun e_ => Nat.not_le.2 hs_ (by rw [e_]; exact GW328.out)) (fun hs_ => fun e_ => Nat.not_le.2 hs_ (by rw [e_]; exact GW328.out))) (fun hn_ => (Kd.freshB BK328.out k_ hn_)), Or.elim hk_ (fun hs_ => Or.elim hs_ (fun hs_ => fun e_ => Nat.not_le.2 hs_ (by rw [e_]; exact GW329.out)) (fun hs_ => fun e_ => Nat.not_le.2 hs_ (by rw [e_]; exact GW329.out))) (fun hn_ => (Kd.freshB BK329.out k_ hn_)), Or.elim hk_ (fun hs_ => Or.elim hs_ (fun hs_ => fun e_ => Nat.not_le.2 hs_ (by rw [e_]; exact GW330.out)) (fun hs_ => fun e_ => Nat.not_le.2 hs_ (by rw [e_]; exact GW330.out))) (fun hn_ => (Kd.freshB BK330.out k_ hn_)), Or.elim hk_ (fun hs_ => Or.elim hs_ (fun hs_ => fun e_ => Nat.not_le.2 hs_ (by rw [e_]; exact GW342.out)) (fun hs_ => fun e_ => Nat.not_le.2 hs_ (by rw [e_]; exact GW342.out))) (fun hn_ => (Kd.freshB BK342.out k_ hn_)), Or.elim hk_ (fun hs_ => Or.elim hs_ (fun hs_ => fun e_ => Nat.not_le.2 hs_ (by rw [e_]; exact GW343.out)) (fun hs_ => fun e_ => Nat.not_le.2 hs_ (by rw [e_]; exact GW343.out))) (fun hn_ => (Kd.freshB BK343.out k_ hn_))⟩)) (below_size HB.out))
                 replace BK328 := Aside0.mk (blk_below BK328.out hb)
                 replace BK329 := Aside0.mk (blk_below BK329.out hb)
                 replace BK330 := Aside0.mk (blk_below BK330.out hb)
                 replace BK342 := Aside0.mk (blk_below BK342.out hb)
                 replace BK343 := Aside0.mk (blk_below BK343.out hb)
                 replace HB := Aside0.mk (below_step HB.out hb)
                 (try clear hb)
                 (try clear ho0)
                 refine hK.out _ _ ⟨(blk_cell BK328.out 0).trans rfl, (blk_cell BK328.out 1).trans rfl, (blk_cell BK328.out 2).trans rfl, (blk_cell BK329.out 0).trans rfl, (blk_cell BK329.out 1).trans rfl, (blk_cell BK329.out 2).trans rfl⟩ (fun hHeld => ?_)
                 clear hK K
                 refine norm_ (a' := ?_) ?_ ?_
                 rotate_left
                 · show Act.put _ (some 26) _ = _
                   simp only [Act.put, List.setIfInBounds_toArray, List.set_cons_zero, List.set_cons_succ, i64_w, i32_w]
                   rfl
                 exact norm_ (by (simp only [putAll, Act.put, List.setIfInBounds_toArray, List.set_cons_zero, List.set_cons_succ]; done)) (hJ2_6_7 (v335, gb342, gb343) _ ⟨hHeld, HO336.out, BK328.out, BK329.out, BK330.out, BK342.out, BK343.out, GW342.out, GE342.out, NB328_342.out, NB342_328.out, NB329_342.out, NB342_329.out, NB330_342.out, NB342_330.out, NB343_342.out, NB342_343.out, GW343.out, GE343.out, NB328_343.out, NB343_328.out, NB329_343.out, NB343_329.out, NB330_343.out, NB343_330.out, HB.out⟩)
             · skip
               rintro ⟨v335, gb343⟩ w20 ⟨hS_, h0_, h1_, h2_, h3_, h4_, h5_, h6_, h7_, h8_, h9_, h10_, h11_, h12_, h13_⟩
               have HO336 : Aside0 (Kd.N k24 24 w20 w.heap.size (fun k_ => k_ ≠ gb328 ∧ k_ ≠ gb329 ∧ k_ ≠ gb330 ∧ k_ ≠ gb343) v335 t334) := ⟨h0_⟩
               replace BK328 : Aside0 (w20.heap[gb328]? = some (.cells #[.int .i64 a0_0, .int .i64 a0_1, .slice A0_2 l0_2.length c0_2] 24 (0, 0))) := ⟨h1_⟩
               replace BK329 : Aside0 (w20.heap[gb329]? = some (.cells #[.int .i64 a1_0, .int .i64 a1_1, .slice A1_2 l1_2.length c1_2] 24 (0, 0))) := ⟨h2_⟩
               replace BK330 : Aside0 (w20.heap[gb330]? = some (.cells #[.int .i64 a4_0, .int .i64 a4_1, .int .i64 a4_2, .int .i64 a4_3, .int .i64 a4_4, .int .i64 a4_5, .int .i64 a4_6, .int .i64 a4_7] 25 (0, 0))) := ⟨h3_⟩
               have BK343 : Aside0 (w20.heap[gb343]? = some (.cells #[.int .i64 0, .int .i64 0, .slice none 0 0] 24 (0, 0))) := ⟨h4_⟩
               have GW343 : Aside0 (w.heap.size ≤ gb343) := ⟨h5_⟩
               have GE343 : Aside0 (w.heap.size ≤ gb343) := ⟨h6_⟩
               have NB328_343 : Aside0 (gb328 ≠ gb343) := ⟨h7_⟩
               have NB343_328 : Aside0 (gb343 ≠ gb328) := ⟨h8_⟩
               have NB329_343 : Aside0 (gb329 ≠ gb343) := ⟨h9_⟩
               have NB343_329 : Aside0 (gb343 ≠ gb329) := ⟨h10_⟩
               have NB330_343 : Aside0 (gb330 ≠ gb343) := ⟨h11_⟩
               have NB343_330 : Aside0 (gb343 ≠ gb330) := ⟨h12_⟩
               replace HB : Aside0 (Below w.heap.size w w20) := ⟨h13_⟩
               clear h0_ h1_ h2_ h3_ h4_ h5_ h6_ h7_ h8_ h9_ h10_ h11_ h12_ h13_
               have hHeld : w20.cell? ⟨gb328, 0, none⟩ = some (.int .i64 a0_0) ∧ w20.cell? ⟨gb328, 1, none⟩ = some (.int .i64 a0_1) ∧ w20.cell? ⟨gb328, 2, none⟩ = some (.slice A0_2 l0_2.length c0_2) ∧ w20.cell? ⟨gb329, 0, none⟩ = some (.int .i64 a1_0) ∧ w20.cell? ⟨gb329, 1, none⟩ = some (.int .i64 a1_1) ∧ w20.cell? ⟨gb329, 2, none⟩ = some (.slice A1_2 l1_2.length c1_2) := hS_
               refine norm_ (a' := ?_) ?_ ?_
               rotate_left
               · simp only [putAll, Act.put, List.setIfInBounds_toArray, List.set_cons_zero, List.set_cons_succ]
                 rfl
               refine two_ (i := 5) (j := 6) (Ni := some 29) (Nj := some 12) #[true, true, true, true, true, true, false, true, false, false] #[true, true, true, true, true, false, true, true, false, false] rfl rfl rfl rfl (two_of HT_.out (by kernel_rfl)) (by decide) (by decide) (fun K hK => ?_) (fun K hK => ?_)
               · skip
                 refine goes_ Try.func22 (by kernel_rfl) rfl #[.int .i64 10, .agg #[.int .i64 a0_0, .int .i64 a0_1, .slice A0_2 l0_2.length c0_2], .agg #[.int .i64 a1_0, .int .i64 a1_1, .slice A1_2 l1_2.length c1_2]] (by rfl) rfl rfl (by (try simp only [List.map_toArray, List.map_cons, List.map_nil]); rfl) ?_
                 with_reducible refine (formelaw14_two.calls 10 a0_0 a0_1 (fun k_ => k_ < w.heap.size) _ _ l0_2 a1_0 a1_1 (fun k_ => k_ < w.heap.size) _ _ l1_2 t337 t338 t339 _ ?side1 ?side2 A8.out).mono ?_
                 (case side1 => exact Kd.V_mk HC0_2.out (Kd.F_below (Kd.C_F k24_heap HR0_2.out) HB.out))
                 (case side2 => exact Kd.V_mk HC1_2.out (Kd.F_below (Kd.C_F k24_heap HR1_2.out) HB.out))
                 rintro e w21 ⟨v340, rfl, ho0, hb⟩
                 refine ⟨_, rfl, ?_⟩
                 have HO341 := Aside0.mk (Kd.N_lower (Kd.N_mono (ok' := fun k_ => some k_ ≠ (v335 : Value).ownBlock ∧ k_ ≠ gb328 ∧ k_ ≠ gb329 ∧ k_ ≠ gb330 ∧ k_ ≠ gb343) ho0 (fun k_ hk_ => ⟨Or.elim hk_ (fun hs_ => Or.elim hs_ (fun hs_ => fun e_ => Nat.not_le.2 hs_ (Kd.N_base HO336.out k_ e_.symm)) (fun hs_ => fun e_ => Nat.not_le.2 hs_ (Kd.N_base HO336.out k_ e_.symm))) (fun hn_ => (Kd.fresh' (Kd.N_lt HO336.out) k_ hn_)), Or.elim hk_ (fun hs_ => Or.elim hs_ (fun hs_ => fun e_ => Nat.not_le.2 hs_ (by rw [e_]; exact GW328.out)) (fun hs_ => fun e_ => Nat.not_le.2 hs_ (by rw [e_]; exact GW328.out))) (fun hn_ => (Kd.freshB BK328.out k_ hn_)), Or.elim hk_ (fun hs_ => Or.elim hs_ (fun hs_ => fun e_ => Nat.not_le.2 hs_ (by rw [e_]; exact GW329.out)) (fun hs_ => fun e_ => Nat.not_le.2 hs_ (by rw [e_]; exact GW329.out))) (fun hn_ => (Kd.freshB BK329.out k_ hn_)), Or.elim hk_ (fun hs_ => Or.elim hs_ (fun hs_ => fun e_ => Nat.not_le.2 hs_ (by rw [e_]; exact GW330.out)) (fun hs_ => fun e_ => Nat.not_le.2 hs_ (by rw [e_]; exact GW330.out))) (fun hn_ => (Kd.freshB BK330.out k_ hn_)), Or.elim hk_ (fun hs_ => Or.elim hs_ (fun hs_ => fun e_ => Nat.not_le.2 hs_ (by rw [e_]; exact GW343.out)) (fun hs_ => fun e_ => Nat.not_le.2 hs_ (by rw [e_]; exact GW343.out))) (fun hn_ => (Kd.freshB BK343.out k_ hn_))⟩)) (below_size HB.out))
                 replace HO336 := Aside0.mk (Kd.N_elder' HO336.out (Kd.N_base ho0) hb)
                 replace BK328 := Aside0.mk (blk_below BK328.out hb)
                 replace BK329 := Aside0.mk (blk_below BK329.out hb)
                 replace BK330 := Aside0.mk (blk_below BK330.out hb)
                 replace BK343 := Aside0.mk (blk_below BK343.out hb)
                 replace HB := Aside0.mk (below_step HB.out hb)
                 (try clear hb)
                 (try clear ho0)
                 refine hK.out _ _ ⟨(blk_cell BK328.out 0).trans rfl, (blk_cell BK328.out 1).trans rfl, (blk_cell BK328.out 2).trans rfl, (blk_cell BK329.out 0).trans rfl, (blk_cell BK329.out 1).trans rfl, (blk_cell BK329.out 2).trans rfl⟩ (fun hHeld => ?_)
                 clear hK K
                 refine norm_ (a' := ?_) ?_ ?_
                 rotate_left
                 · show Act.put _ (some 29) _ = _
                   simp only [Act.put, List.setIfInBounds_toArray, List.set_cons_zero, List.set_cons_succ, i64_w, i32_w]
                   rfl
                 exact norm_ (by (simp only [putAll, Act.put, List.setIfInBounds_toArray, List.set_cons_zero, List.set_cons_succ]; done)) (hJ2_5_7 (v335, v340, gb343) _ ⟨hHeld, (by (with_reducible repeat (fail)); exact Kd.N_mono HO336.out (fun _ hk => ⟨hk.2, ⟨hk.1.1, ⟨hk.1.2.1, ⟨hk.1.2.2.1, hk.1.2.2.2⟩⟩⟩⟩)), HO341.out, BK328.out, BK329.out, BK330.out, BK343.out, GW343.out, GE343.out, NB328_343.out, NB343_328.out, NB329_343.out, NB343_329.out, NB330_343.out, NB343_330.out, HB.out⟩)
               · skip
                 refine box_step ?hg (N := 12) ?hd (cs := #[.int .i64 0, .int .i64 0, .slice none 0 0]) (t := 24) ?hr ?_; (case hd => rfl); (case hg => rfl); (case hr => (go_simp; done))
                 intro gb342 hg w21 hbox hb
                 replace HO336 := Aside0.mk (Kd.N_below (Kd.N_elderB HO336.out gb342 (Nat.le_of_eq hg.symm)) hb)
                 have BK342 := Aside0.mk (hbox)
                 have GW342 := Aside0.mk ((by rw [hg]; exact (below_size HB.out) : w.heap.size ≤ gb342))
                 have GE342 := Aside0.mk ((by rw [hg]; exact (below_size HB.out) : w.heap.size ≤ gb342))
                 replace HB := Aside0.mk (below_step HB.out hb)
                 have NB328_342 := Aside0.mk ((by rw [hg]; exact Nat.ne_of_lt (blk_lt BK328.out) : gb328 ≠ gb342))
                 have NB342_328 := Aside0.mk ((by rw [hg]; exact Nat.ne_of_gt (blk_lt BK328.out) : gb342 ≠ gb328))
                 replace BK328 := Aside0.mk (blk_below BK328.out hb)
                 have NB329_342 := Aside0.mk ((by rw [hg]; exact Nat.ne_of_lt (blk_lt BK329.out) : gb329 ≠ gb342))
                 have NB342_329 := Aside0.mk ((by rw [hg]; exact Nat.ne_of_gt (blk_lt BK329.out) : gb342 ≠ gb329))
                 replace BK329 := Aside0.mk (blk_below BK329.out hb)
                 have NB330_342 := Aside0.mk ((by rw [hg]; exact Nat.ne_of_lt (blk_lt BK330.out) : gb330 ≠ gb342))
                 have NB342_330 := Aside0.mk ((by rw [hg]; exact Nat.ne_of_gt (blk_lt BK330.out) : gb342 ≠ gb330))
                 replace BK330 := Aside0.mk (blk_below BK330.out hb)
                 have NB343_342 := Aside0.mk ((by rw [hg]; exact Nat.ne_of_lt (blk_lt BK343.out) : gb343 ≠ gb342))
                 have NB342_343 := Aside0.mk ((by rw [hg]; exact Nat.ne_of_gt (blk_lt BK343.out) : gb342 ≠ gb343))
                 replace BK343 := Aside0.mk (blk_below BK343.out hb)
                 clear hb hbox hg
                 refine hK.out _ _ ⟨(blk_cell BK328.out 0).trans rfl, (blk_cell BK328.out 1).trans rfl, (blk_cell BK328.out 2).trans rfl, (blk_cell BK329.out 0).trans rfl, (blk_cell BK329.out 1).trans rfl, (blk_cell BK329.out 2).trans rfl⟩ (fun hHeld => ?_)
                 clear hK K
                 refine norm_ (a' := ?_) ?_ ?_
                 rotate_left
                 · show Act.put _ (some 12) _ = _
                   simp only [Act.put, List.setIfInBounds_toArray, List.set_cons_zero, List.set_cons_succ, i64_w, i32_w]
                   rfl
                 exact norm_ (by (simp only [putAll, Act.put, List.setIfInBounds_toArray, List.set_cons_zero, List.set_cons_succ]; done)) (hJ2_6_7 (v335, gb342, gb343) _ ⟨hHeld, (by (with_reducible repeat (fail)); exact Kd.N_mono HO336.out (fun _ hk => ⟨hk.1.1, ⟨hk.1.2.1, ⟨hk.1.2.2.1, ⟨hk.2, hk.1.2.2.2⟩⟩⟩⟩)), BK328.out, BK329.out, BK330.out, BK342.out, BK343.out, GW342.out, GE342.out, NB328_342.out, NB342_328.out, NB329_342.out, NB342_329.out, NB330_342.out, NB342_330.out, NB343_342.out, NB342_343.out, GW343.out, GE343.out, NB328_343.out, NB343_328.out, NB329_343.out, NB343_329.out, NB330_343.out, NB343_330.out, HB.out⟩)
           · skip
             rintro ⟨v335, gb342⟩ w20 ⟨hS_, h0_, h1_, h2_, h3_, h4_, h5_, h6_, h7_, h8_, h9_, h10_, h11_, h12_, h13_⟩
             have HO336 : Aside0 (Kd.N k24 24 w20 w.heap.size (fun k_ => k_ ≠ gb328 ∧ k_ ≠ gb329 ∧ k_ ≠ gb330 ∧ k_ ≠ gb342) v335 t334) := ⟨h0_⟩
             replace BK328 : Aside0 (w20.heap[gb328]? = some (.cells #[.int .i64 a0_0, .int .i64 a0_1, .slice A0_2 l0_2.length c0_2] 24 (0, 0))) := ⟨h1_⟩
             replace BK329 : Aside0 (w20.heap[gb329]? = some (.cells #[.int .i64 a1_0, .int .i64 a1_1, .slice A1_2 l1_2.length c1_2] 24 (0, 0))) := ⟨h2_⟩
             replace BK330 : Aside0 (w20.heap[gb330]? = some (.cells #[.int .i64 a4_0, .int .i64 a4_1, .int .i64 a4_2, .int .i64 a4_3, .int .i64 a4_4, .int .i64 a4_5, .int .i64 a4_6, .int .i64 a4_7] 25 (0, 0))) := ⟨h3_⟩
             have BK342 : Aside0 (w20.heap[gb342]? = some (.cells #[.int .i64 0, .int .i64 0, .slice none 0 0] 24 (0, 0))) := ⟨h4_⟩
             have GW342 : Aside0 (w.heap.size ≤ gb342) := ⟨h5_⟩
             have GE342 : Aside0 (w.heap.size ≤ gb342) := ⟨h6_⟩
             have NB328_342 : Aside0 (gb328 ≠ gb342) := ⟨h7_⟩
             have NB342_328 : Aside0 (gb342 ≠ gb328) := ⟨h8_⟩
             have NB329_342 : Aside0 (gb329 ≠ gb342) := ⟨h9_⟩
             have NB342_329 : Aside0 (gb342 ≠ gb329) := ⟨h10_⟩
             have NB330_342 : Aside0 (gb330 ≠ gb342) := ⟨h11_⟩
             have NB342_330 : Aside0 (gb342 ≠ gb330) := ⟨h12_⟩
             replace HB : Aside0 (Below w.heap.size w w20) := ⟨h13_⟩
             clear h0_ h1_ h2_ h3_ h4_ h5_ h6_ h7_ h8_ h9_ h10_ h11_ h12_ h13_
             have hHeld : w20.cell? ⟨gb328, 0, none⟩ = some (.int .i64 a0_0) ∧ w20.cell? ⟨gb328, 1, none⟩ = some (.int .i64 a0_1) ∧ w20.cell? ⟨gb328, 2, none⟩ = some (.slice A0_2 l0_2.length c0_2) ∧ w20.cell? ⟨gb329, 0, none⟩ = some (.int .i64 a1_0) ∧ w20.cell? ⟨gb329, 1, none⟩ = some (.int .i64 a1_1) ∧ w20.cell? ⟨gb329, 2, none⟩ = some (.slice A1_2 l1_2.length c1_2) := hS_
             refine norm_ (a' := ?_) ?_ ?_
             rotate_left
             · simp only [putAll, Act.put, List.setIfInBounds_toArray, List.set_cons_zero, List.set_cons_succ]
               rfl
             refine two_ (i := 5) (j := 7) (Ni := some 29) (Nj := some 13) #[true, true, true, true, true, true, true, false, false, false] #[true, true, true, true, true, false, true, true, false, false] rfl rfl rfl rfl (two_of HT_.out (by kernel_rfl)) (by decide) (by decide) (fun K hK => ?_) (fun K hK => ?_)
             · skip
               refine goes_ Try.func22 (by kernel_rfl) rfl #[.int .i64 10, .agg #[.int .i64 a0_0, .int .i64 a0_1, .slice A0_2 l0_2.length c0_2], .agg #[.int .i64 a1_0, .int .i64 a1_1, .slice A1_2 l1_2.length c1_2]] (by rfl) rfl rfl (by (try simp only [List.map_toArray, List.map_cons, List.map_nil]); rfl) ?_
               with_reducible refine (formelaw14_two.calls 10 a0_0 a0_1 (fun k_ => k_ < w.heap.size) _ _ l0_2 a1_0 a1_1 (fun k_ => k_ < w.heap.size) _ _ l1_2 t337 t338 t339 _ ?side1 ?side2 A8.out).mono ?_
               (case side1 => exact Kd.V_mk HC0_2.out (Kd.F_below (Kd.C_F k24_heap HR0_2.out) HB.out))
               (case side2 => exact Kd.V_mk HC1_2.out (Kd.F_below (Kd.C_F k24_heap HR1_2.out) HB.out))
               rintro e w21 ⟨v340, rfl, ho0, hb⟩
               refine ⟨_, rfl, ?_⟩
               have HO341 := Aside0.mk (Kd.N_lower (Kd.N_mono (ok' := fun k_ => some k_ ≠ (v335 : Value).ownBlock ∧ k_ ≠ gb328 ∧ k_ ≠ gb329 ∧ k_ ≠ gb330 ∧ k_ ≠ gb342) ho0 (fun k_ hk_ => ⟨Or.elim hk_ (fun hs_ => Or.elim hs_ (fun hs_ => fun e_ => Nat.not_le.2 hs_ (Kd.N_base HO336.out k_ e_.symm)) (fun hs_ => fun e_ => Nat.not_le.2 hs_ (Kd.N_base HO336.out k_ e_.symm))) (fun hn_ => (Kd.fresh' (Kd.N_lt HO336.out) k_ hn_)), Or.elim hk_ (fun hs_ => Or.elim hs_ (fun hs_ => fun e_ => Nat.not_le.2 hs_ (by rw [e_]; exact GW328.out)) (fun hs_ => fun e_ => Nat.not_le.2 hs_ (by rw [e_]; exact GW328.out))) (fun hn_ => (Kd.freshB BK328.out k_ hn_)), Or.elim hk_ (fun hs_ => Or.elim hs_ (fun hs_ => fun e_ => Nat.not_le.2 hs_ (by rw [e_]; exact GW329.out)) (fun hs_ => fun e_ => Nat.not_le.2 hs_ (by rw [e_]; exact GW329.out))) (fun hn_ => (Kd.freshB BK329.out k_ hn_)), Or.elim hk_ (fun hs_ => Or.elim hs_ (fun hs_ => fun e_ => Nat.not_le.2 hs_ (by rw [e_]; exact GW330.out)) (fun hs_ => fun e_ => Nat.not_le.2 hs_ (by rw [e_]; exact GW330.out))) (fun hn_ => (Kd.freshB BK330.out k_ hn_)), Or.elim hk_ (fun hs_ => Or.elim hs_ (fun hs_ => fun e_ => Nat.not_le.2 hs_ (by rw [e_]; exact GW342.out)) (fun hs_ => fun e_ => Nat.not_le.2 hs_ (by rw [e_]; exact GW342.out))) (fun hn_ => (Kd.freshB BK342.out k_ hn_))⟩)) (below_size HB.out))
               replace HO336 := Aside0.mk (Kd.N_elder' HO336.out (Kd.N_base ho0) hb)
               replace BK328 := Aside0.mk (blk_below BK328.out hb)
               replace BK329 := Aside0.mk (blk_below BK329.out hb)
               replace BK330 := Aside0.mk (blk_below BK330.out hb)
               replace BK342 := Aside0.mk (blk_below BK342.out hb)
               replace HB := Aside0.mk (below_step HB.out hb)
               (try clear hb)
               (try clear ho0)
               refine hK.out _ _ ⟨(blk_cell BK328.out 0).trans rfl, (blk_cell BK328.out 1).trans rfl, (blk_cell BK328.out 2).trans rfl, (blk_cell BK329.out 0).trans rfl, (blk_cell BK329.out 1).trans rfl, (blk_cell BK329.out 2).trans rfl⟩ (fun hHeld => ?_)
               clear hK K
               refine norm_ (a' := ?_) ?_ ?_
               rotate_left
               · show Act.put _ (some 29) _ = _
                 simp only [Act.put, List.setIfInBounds_toArray, List.set_cons_zero, List.set_cons_succ, i64_w, i32_w]
                 rfl
               exact norm_ (by (simp only [putAll, Act.put, List.setIfInBounds_toArray, List.set_cons_zero, List.set_cons_succ]; done)) (hJ2_5_6 (v335, v340, gb342) _ ⟨hHeld, (by (with_reducible repeat (fail)); exact Kd.N_mono HO336.out (fun _ hk => ⟨hk.2, ⟨hk.1.1, ⟨hk.1.2.1, ⟨hk.1.2.2.1, hk.1.2.2.2⟩⟩⟩⟩)), HO341.out, BK328.out, BK329.out, BK330.out, BK342.out, GW342.out, GE342.out, NB328_342.out, NB342_328.out, NB329_342.out, NB342_329.out, NB330_342.out, NB342_330.out, HB.out⟩)
             · skip
               refine box_step ?hg (N := 13) ?hd (cs := #[.int .i64 0, .int .i64 0, .slice none 0 0]) (t := 24) ?hr ?_; (case hd => rfl); (case hg => rfl); (case hr => (go_simp; done))
               intro gb343 hg w21 hbox hb
               replace HO336 := Aside0.mk (Kd.N_below (Kd.N_elderB HO336.out gb343 (Nat.le_of_eq hg.symm)) hb)
               have BK343 := Aside0.mk (hbox)
               have GW343 := Aside0.mk ((by rw [hg]; exact (below_size HB.out) : w.heap.size ≤ gb343))
               have GE343 := Aside0.mk ((by rw [hg]; exact (below_size HB.out) : w.heap.size ≤ gb343))
               replace HB := Aside0.mk (below_step HB.out hb)
               have NB328_343 := Aside0.mk ((by rw [hg]; exact Nat.ne_of_lt (blk_lt BK328.out) : gb328 ≠ gb343))
               have NB343_328 := Aside0.mk ((by rw [hg]; exact Nat.ne_of_gt (blk_lt BK328.out) : gb343 ≠ gb328))
               replace BK328 := Aside0.mk (blk_below BK328.out hb)
               have NB329_343 := Aside0.mk ((by rw [hg]; exact Nat.ne_of_lt (blk_lt BK329.out) : gb329 ≠ gb343))
               have NB343_329 := Aside0.mk ((by rw [hg]; exact Nat.ne_of_gt (blk_lt BK329.out) : gb343 ≠ gb329))
               replace BK329 := Aside0.mk (blk_below BK329.out hb)
               have NB330_343 := Aside0.mk ((by rw [hg]; exact Nat.ne_of_lt (blk_lt BK330.out) : gb330 ≠ gb343))
               have NB343_330 := Aside0.mk ((by rw [hg]; exact Nat.ne_of_gt (blk_lt BK330.out) : gb343 ≠ gb330))
               replace BK330 := Aside0.mk (blk_below BK330.out hb)
               have NB342_343 := Aside0.mk ((by rw [hg]; exact Nat.ne_of_lt (blk_lt BK342.out) : gb342 ≠ gb343))
               have NB343_342 := Aside0.mk ((by rw [hg]; exact Nat.ne_of_gt (blk_lt BK342.out) : gb343 ≠ gb342))
               replace BK342 := Aside0.mk (blk_below BK342.out hb)
               clear hb hbox hg
               refine hK.out _ _ ⟨(blk_cell BK328.out 0).trans rfl, (blk_cell BK328.out 1).trans rfl, (blk_cell BK328.out 2).trans rfl, (blk_cell BK329.out 0).trans rfl, (blk_cell BK329.out 1).trans rfl, (blk_cell BK329.out 2).trans rfl⟩ (fun hHeld => ?_)
               clear hK K
               refine norm_ (a' := ?_) ?_ ?_
               rotate_left
               · show Act.put _ (some 13) _ = _
                 simp only [Act.put, List.setIfInBounds_toArray, List.set_cons_zero, List.set_cons_succ, i64_w, i32_w]
                 rfl
               exact norm_ (by (simp only [putAll, Act.put, List.setIfInBounds_toArray, List.set_cons_zero, List.set_cons_succ]; done)) (hJ2_6_7 (v335, gb342, gb343) _ ⟨hHeld, (by (with_reducible repeat (fail)); exact Kd.N_mono HO336.out (fun _ hk => ⟨hk.1.1, ⟨hk.1.2.1, ⟨hk.1.2.2.1, ⟨hk.1.2.2.2, hk.2⟩⟩⟩⟩)), BK328.out, BK329.out, BK330.out, BK342.out, BK343.out, GW342.out, GE342.out, NB328_342.out, NB342_328.out, NB329_342.out, NB342_329.out, NB330_342.out, NB342_330.out, NB343_342.out, NB342_343.out, GW343.out, GE343.out, NB328_343.out, NB343_328.out, NB329_343.out, NB343_329.out, NB330_343.out, NB343_330.out, HB.out⟩)
         · skip
           rintro ⟨v335, v340⟩ w20 ⟨hS_, h0_, h1_, h2_, h3_, h4_, h5_⟩
           have HO336 : Aside0 (Kd.N k24 24 w20 w.heap.size (fun k_ => some k_ ≠ (v340 : Value).ownBlock ∧ k_ ≠ gb328 ∧ k_ ≠ gb329 ∧ k_ ≠ gb330) v335 t334) := ⟨h0_⟩
           have HO341 : Aside0 (Kd.N k24 24 w20 w.heap.size (fun k_ => some k_ ≠ (v335 : Value).ownBlock ∧ k_ ≠ gb328 ∧ k_ ≠ gb329 ∧ k_ ≠ gb330) v340 t339) := ⟨h1_⟩
           replace BK328 : Aside0 (w20.heap[gb328]? = some (.cells #[.int .i64 a0_0, .int .i64 a0_1, .slice A0_2 l0_2.length c0_2] 24 (0, 0))) := ⟨h2_⟩
           replace BK329 : Aside0 (w20.heap[gb329]? = some (.cells #[.int .i64 a1_0, .int .i64 a1_1, .slice A1_2 l1_2.length c1_2] 24 (0, 0))) := ⟨h3_⟩
           replace BK330 : Aside0 (w20.heap[gb330]? = some (.cells #[.int .i64 a4_0, .int .i64 a4_1, .int .i64 a4_2, .int .i64 a4_3, .int .i64 a4_4, .int .i64 a4_5, .int .i64 a4_6, .int .i64 a4_7] 25 (0, 0))) := ⟨h4_⟩
           replace HB : Aside0 (Below w.heap.size w w20) := ⟨h5_⟩
           clear h0_ h1_ h2_ h3_ h4_ h5_
           have hHeld : w20.cell? ⟨gb328, 0, none⟩ = some (.int .i64 a0_0) ∧ w20.cell? ⟨gb328, 1, none⟩ = some (.int .i64 a0_1) ∧ w20.cell? ⟨gb328, 2, none⟩ = some (.slice A0_2 l0_2.length c0_2) ∧ w20.cell? ⟨gb329, 0, none⟩ = some (.int .i64 a1_0) ∧ w20.cell? ⟨gb329, 1, none⟩ = some (.int .i64 a1_1) ∧ w20.cell? ⟨gb329, 2, none⟩ = some (.slice A1_2 l1_2.length c1_2) := hS_
           refine norm_ (a' := ?_) ?_ ?_
           rotate_left
           · simp only [putAll, Act.put, List.setIfInBounds_toArray, List.set_cons_zero, List.set_cons_succ]
             rfl
           refine two_ (i := 6) (j := 7) (Ni := some 12) (Nj := some 13) #[true, true, true, true, true, true, true, false, false, false] #[true, true, true, true, true, true, false, true, false, false] rfl rfl rfl rfl (two_of HT_.out (by kernel_rfl)) (by decide) (by decide) (fun K hK => ?_) (fun K hK => ?_)
           · skip
             refine box_step ?hg (N := 12) ?hd (cs := #[.int .i64 0, .int .i64 0, .slice none 0 0]) (t := 24) ?hr ?_; (case hd => rfl); (case hg => rfl); (case hr => (go_simp; done))
             intro gb342 hg w21 hbox hb
             replace HO336 := Aside0.mk (Kd.N_below (Kd.N_elderB HO336.out gb342 (Nat.le_of_eq hg.symm)) hb)
             replace HO341 := Aside0.mk (Kd.N_below (Kd.N_elderB HO341.out gb342 (Nat.le_of_eq hg.symm)) hb)
             have BK342 := Aside0.mk (hbox)
             have GW342 := Aside0.mk ((by rw [hg]; exact (below_size HB.out) : w.heap.size ≤ gb342))
             have GE342 := Aside0.mk ((by rw [hg]; exact (below_size HB.out) : w.heap.size ≤ gb342))
             replace HB := Aside0.mk (below_step HB.out hb)
             have NB328_342 := Aside0.mk ((by rw [hg]; exact Nat.ne_of_lt (blk_lt BK328.out) : gb328 ≠ gb342))
             have NB342_328 := Aside0.mk ((by rw [hg]; exact Nat.ne_of_gt (blk_lt BK328.out) : gb342 ≠ gb328))
             replace BK328 := Aside0.mk (blk_below BK328.out hb)
             have NB329_342 := Aside0.mk ((by rw [hg]; exact Nat.ne_of_lt (blk_lt BK329.out) : gb329 ≠ gb342))
             have NB342_329 := Aside0.mk ((by rw [hg]; exact Nat.ne_of_gt (blk_lt BK329.out) : gb342 ≠ gb329))
             replace BK329 := Aside0.mk (blk_below BK329.out hb)
             have NB330_342 := Aside0.mk ((by rw [hg]; exact Nat.ne_of_lt (blk_lt BK330.out) : gb330 ≠ gb342))
             have NB342_330 := Aside0.mk ((by rw [hg]; exact Nat.ne_of_gt (blk_lt BK330.out) : gb342 ≠ gb330))
             replace BK330 := Aside0.mk (blk_below BK330.out hb)
             clear hb hbox hg
             refine hK.out _ _ ⟨(blk_cell BK328.out 0).trans rfl, (blk_cell BK328.out 1).trans rfl, (blk_cell BK328.out 2).trans rfl, (blk_cell BK329.out 0).trans rfl, (blk_cell BK329.out 1).trans rfl, (blk_cell BK329.out 2).trans rfl⟩ (fun hHeld => ?_)
             clear hK K
             refine norm_ (a' := ?_) ?_ ?_
             rotate_left
             · show Act.put _ (some 12) _ = _
               simp only [Act.put, List.setIfInBounds_toArray, List.set_cons_zero, List.set_cons_succ, i64_w, i32_w]
               rfl
             exact norm_ (by (simp only [putAll, Act.put, List.setIfInBounds_toArray, List.set_cons_zero, List.set_cons_succ]; done)) (hJ2_5_6 (v335, v340, gb342) _ ⟨hHeld, (by (with_reducible repeat (fail)); exact Kd.N_mono HO336.out (fun _ hk => ⟨hk.1.1, ⟨hk.1.2.1, ⟨hk.1.2.2.1, ⟨hk.1.2.2.2, hk.2⟩⟩⟩⟩)), (by (with_reducible repeat (fail)); exact Kd.N_mono HO341.out (fun _ hk => ⟨hk.1.1, ⟨hk.1.2.1, ⟨hk.1.2.2.1, ⟨hk.1.2.2.2, hk.2⟩⟩⟩⟩)), BK328.out, BK329.out, BK330.out, BK342.out, GW342.out, GE342.out, NB328_342.out, NB342_328.out, NB329_342.out, NB342_329.out, NB330_342.out, NB342_330.out, HB.out⟩)
           · skip
             refine box_step ?hg (N := 13) ?hd (cs := #[.int .i64 0, .int .i64 0, .slice none 0 0]) (t := 24) ?hr ?_; (case hd => rfl); (case hg => rfl); (case hr => (go_simp; done))
             intro gb343 hg w21 hbox hb
             replace HO336 := Aside0.mk (Kd.N_below (Kd.N_elderB HO336.out gb343 (Nat.le_of_eq hg.symm)) hb)
             replace HO341 := Aside0.mk (Kd.N_below (Kd.N_elderB HO341.out gb343 (Nat.le_of_eq hg.symm)) hb)
             have BK343 := Aside0.mk (hbox)
             have GW343 := Aside0.mk ((by rw [hg]; exact (below_size HB.out) : w.heap.size ≤ gb343))
             have GE343 := Aside0.mk ((by rw [hg]; exact (below_size HB.out) : w.heap.size ≤ gb343))
             replace HB := Aside0.mk (below_step HB.out hb)
             have NB328_343 := Aside0.mk ((by rw [hg]; exact Nat.ne_of_lt (blk_lt BK328.out) : gb328 ≠ gb343))
             have NB343_328 := Aside0.mk ((by rw [hg]; exact Nat.ne_of_gt (blk_lt BK328.out) : gb343 ≠ gb328))
             replace BK328 := Aside0.mk (blk_below BK328.out hb)
             have NB329_343 := Aside0.mk ((by rw [hg]; exact Nat.ne_of_lt (blk_lt BK329.out) : gb329 ≠ gb343))
             have NB343_329 := Aside0.mk ((by rw [hg]; exact Nat.ne_of_gt (blk_lt BK329.out) : gb343 ≠ gb329))
             replace BK329 := Aside0.mk (blk_below BK329.out hb)
             have NB330_343 := Aside0.mk ((by rw [hg]; exact Nat.ne_of_lt (blk_lt BK330.out) : gb330 ≠ gb343))
             have NB343_330 := Aside0.mk ((by rw [hg]; exact Nat.ne_of_gt (blk_lt BK330.out) : gb343 ≠ gb330))
             replace BK330 := Aside0.mk (blk_below BK330.out hb)
             clear hb hbox hg
             refine hK.out _ _ ⟨(blk_cell BK328.out 0).trans rfl, (blk_cell BK328.out 1).trans rfl, (blk_cell BK328.out 2).trans rfl, (blk_cell BK329.out 0).trans rfl, (blk_cell BK329.out 1).trans rfl, (blk_cell BK329.out 2).trans rfl⟩ (fun hHeld => ?_)
             clear hK K
             refine norm_ (a' := ?_) ?_ ?_
             rotate_left
             · show Act.put _ (some 13) _ = _
               simp only [Act.put, List.setIfInBounds_toArray, List.set_cons_zero, List.set_cons_succ, i64_w, i32_w]
               rfl
             exact norm_ (by (simp only [putAll, Act.put, List.setIfInBounds_toArray, List.set_cons_zero, List.set_cons_succ]; done)) (hJ2_5_7 (v335, v340, gb343) _ ⟨hHeld, (by (with_reducible repeat (fail)); exact Kd.N_mono HO336.out (fun _ hk => ⟨hk.1.1, ⟨hk.1.2.1, ⟨hk.1.2.2.1, ⟨hk.1.2.2.2, hk.2⟩⟩⟩⟩)), (by (with_reducible repeat (fail)); exact Kd.N_mono HO341.out (fun _ hk => ⟨hk.1.1, ⟨hk.1.2.1, ⟨hk.1.2.2.1, ⟨hk.1.2.2.2, hk.2⟩⟩⟩⟩)), BK328.out, BK329.out, BK330.out, BK343.out, GW343.out, GE343.out, NB328_343.out, NB343_328.out, NB329_343.out, NB343_329.out, NB330_343.out, NB343_330.out, HB.out⟩)
       · skip
         rintro ⟨v335, gb342, gb343⟩ w21 ⟨hS_, h0_, h1_, h2_, h3_, h4_, h5_, h6_, h7_, h8_, h9_, h10_, h11_, h12_, h13_, h14_, h15_, h16_, h17_, h18_, h19_, h20_, h21_, h22_, h23_, h24_⟩
         have HO336 : Aside0 (Kd.N k24 24 w21 w.heap.size (fun k_ => k_ ≠ gb328 ∧ k_ ≠ gb329 ∧ k_ ≠ gb330 ∧ k_ ≠ gb342 ∧ k_ ≠ gb343) v335 t334) := ⟨h0_⟩
         replace BK328 : Aside0 (w21.heap[gb328]? = some (.cells #[.int .i64 a0_0, .int .i64 a0_1, .slice A0_2 l0_2.length c0_2] 24 (0, 0))) := ⟨h1_⟩
         replace BK329 : Aside0 (w21.heap[gb329]? = some (.cells #[.int .i64 a1_0, .int .i64 a1_1, .slice A1_2 l1_2.length c1_2] 24 (0, 0))) := ⟨h2_⟩
         replace BK330 : Aside0 (w21.heap[gb330]? = some (.cells #[.int .i64 a4_0, .int .i64 a4_1, .int .i64 a4_2, .int .i64 a4_3, .int .i64 a4_4, .int .i64 a4_5, .int .i64 a4_6, .int .i64 a4_7] 25 (0, 0))) := ⟨h3_⟩
         have BK342 : Aside0 (w21.heap[gb342]? = some (.cells #[.int .i64 0, .int .i64 0, .slice none 0 0] 24 (0, 0))) := ⟨h4_⟩
         have BK343 : Aside0 (w21.heap[gb343]? = some (.cells #[.int .i64 0, .int .i64 0, .slice none 0 0] 24 (0, 0))) := ⟨h5_⟩
         have GW342 : Aside0 (w.heap.size ≤ gb342) := ⟨h6_⟩
         have GE342 : Aside0 (w.heap.size ≤ gb342) := ⟨h7_⟩
         have NB328_342 : Aside0 (gb328 ≠ gb342) := ⟨h8_⟩
         have NB342_328 : Aside0 (gb342 ≠ gb328) := ⟨h9_⟩
         have NB329_342 : Aside0 (gb329 ≠ gb342) := ⟨h10_⟩
         have NB342_329 : Aside0 (gb342 ≠ gb329) := ⟨h11_⟩
         have NB330_342 : Aside0 (gb330 ≠ gb342) := ⟨h12_⟩
         have NB342_330 : Aside0 (gb342 ≠ gb330) := ⟨h13_⟩
         have NB343_342 : Aside0 (gb343 ≠ gb342) := ⟨h14_⟩
         have NB342_343 : Aside0 (gb342 ≠ gb343) := ⟨h15_⟩
         have GW343 : Aside0 (w.heap.size ≤ gb343) := ⟨h16_⟩
         have GE343 : Aside0 (w.heap.size ≤ gb343) := ⟨h17_⟩
         have NB328_343 : Aside0 (gb328 ≠ gb343) := ⟨h18_⟩
         have NB343_328 : Aside0 (gb343 ≠ gb328) := ⟨h19_⟩
         have NB329_343 : Aside0 (gb329 ≠ gb343) := ⟨h20_⟩
         have NB343_329 : Aside0 (gb343 ≠ gb329) := ⟨h21_⟩
         have NB330_343 : Aside0 (gb330 ≠ gb343) := ⟨h22_⟩
         have NB343_330 : Aside0 (gb343 ≠ gb330) := ⟨h23_⟩
         replace HB : Aside0 (Below w.heap.size w w21) := ⟨h24_⟩
         clear h0_ h1_ h2_ h3_ h4_ h5_ h6_ h7_ h8_ h9_ h10_ h11_ h12_ h13_ h14_ h15_ h16_ h17_ h18_ h19_ h20_ h21_ h22_ h23_ h24_
         have hHeld : w21.cell? ⟨gb328, 0, none⟩ = some (.int .i64 a0_0) ∧ w21.cell? ⟨gb328, 1, none⟩ = some (.int .i64 a0_1) ∧ w21.cell? ⟨gb328, 2, none⟩ = some (.slice A0_2 l0_2.length c0_2) ∧ w21.cell? ⟨gb329, 0, none⟩ = some (.int .i64 a1_0) ∧ w21.cell? ⟨gb329, 1, none⟩ = some (.int .i64 a1_1) ∧ w21.cell? ⟨gb329, 2, none⟩ = some (.slice A1_2 l1_2.length c1_2) := hS_
         refine norm_ (a' := ?_) ?_ ?_
         rotate_left
         · simp only [putAll, Act.put, List.setIfInBounds_toArray, List.set_cons_zero, List.set_cons_succ]
           rfl
         refine one_ (i := 5) (N := some 29) #[true, true, true, true, true, true, true, true, false, false] rfl rfl (one_of HT_.out (by kernel_rfl)) (by decide) (fun K hK => ?_)
         refine goes_ Try.func22 (by kernel_rfl) rfl #[.int .i64 10, .agg #[.int .i64 a0_0, .int .i64 a0_1, .slice A0_2 l0_2.length c0_2], .agg #[.int .i64 a1_0, .int .i64 a1_1, .slice A1_2 l1_2.length c1_2]] (by rfl) rfl rfl (by (try simp only [List.map_toArray, List.map_cons, List.map_nil]); rfl) ?_
         with_reducible refine (formelaw14_two.calls 10 a0_0 a0_1 (fun k_ => k_ < w.heap.size) _ _ l0_2 a1_0 a1_1 (fun k_ => k_ < w.heap.size) _ _ l1_2 t337 t338 t339 _ ?side1 ?side2 A8.out).mono ?_
         (case side1 => exact Kd.V_mk HC0_2.out (Kd.F_below (Kd.C_F k24_heap HR0_2.out) HB.out))
         (case side2 => exact Kd.V_mk HC1_2.out (Kd.F_below (Kd.C_F k24_heap HR1_2.out) HB.out))
         rintro e w22 ⟨v340, rfl, ho0, hb⟩
         refine ⟨_, rfl, ?_⟩
         have HO341 := Aside0.mk (Kd.N_lower (Kd.N_mono (ok' := fun k_ => some k_ ≠ (v335 : Value).ownBlock ∧ k_ ≠ gb328 ∧ k_ ≠ gb329 ∧ k_ ≠ gb330 ∧ k_ ≠ gb342 ∧ k_ ≠ gb343) ho0 (fun k_ hk_ => ⟨Or.elim hk_ (fun hs_ => Or.elim hs_ (fun hs_ => fun e_ => Nat.not_le.2 hs_ (Kd.N_base HO336.out k_ e_.symm)) (fun hs_ => fun e_ => Nat.not_le.2 hs_ (Kd.N_base HO336.out k_ e_.symm))) (fun hn_ => (Kd.fresh' (Kd.N_lt HO336.out) k_ hn_)), Or.elim hk_ (fun hs_ => Or.elim hs_ (fun hs_ => fun e_ => Nat.not_le.2 hs_ (by rw [e_]; exact GW328.out)) (fun hs_ => fun e_ => Nat.not_le.2 hs_ (by rw [e_]; exact GW328.out))) (fun hn_ => (Kd.freshB BK328.out k_ hn_)), Or.elim hk_ (fun hs_ => Or.elim hs_ (fun hs_ => fun e_ => Nat.not_le.2 hs_ (by rw [e_]; exact GW329.out)) (fun hs_ => fun e_ => Nat.not_le.2 hs_ (by rw [e_]; exact GW329.out))) (fun hn_ => (Kd.freshB BK329.out k_ hn_)), Or.elim hk_ (fun hs_ => Or.elim hs_ (fun hs_ => fun e_ => Nat.not_le.2 hs_ (by rw [e_]; exact GW330.out)) (fun hs_ => fun e_ => Nat.not_le.2 hs_ (by rw [e_]; exact GW330.out))) (fun hn_ => (Kd.freshB BK330.out k_ hn_)), Or.elim hk_ (fun hs_ => Or.elim hs_ (fun hs_ => fun e_ => Nat.not_le.2 hs_ (by rw [e_]; exact GW342.out)) (fun hs_ => fun e_ => Nat.not_le.2 hs_ (by rw [e_]; exact GW342.out))) (fun hn_ => (Kd.freshB BK342.out k_ hn_)), Or.elim hk_ (fun hs_ => Or.elim hs_ (fun hs_ => fun e_ => Nat.not_le.2 hs_ (by rw [e_]; exact GW343.out)) (fun hs_ => fun e_ => Nat.not_le.2 hs_ (by rw [e_]; exact GW343.out))) (fun hn_ => (Kd.freshB BK343.out k_ hn_))⟩)) (below_size HB.out))
         replace HO336 := Aside0.mk (Kd.N_elder' HO336.out (Kd.N_base ho0) hb)
         replace BK328 := Aside0.mk (blk_below BK328.out hb)
         replace BK329 := Aside0.mk (blk_below BK329.out hb)
         replace BK330 := Aside0.mk (blk_below BK330.out hb)
         replace BK342 := Aside0.mk (blk_below BK342.out hb)
         replace BK343 := Aside0.mk (blk_below BK343.out hb)
         replace HB := Aside0.mk (below_step HB.out hb)
         (try clear hb)
         (try clear ho0)
         refine hK.out _ _ ⟨(blk_cell BK328.out 0).trans rfl, (blk_cell BK328.out 1).trans rfl, (blk_cell BK328.out 2).trans rfl, (blk_cell BK329.out 0).trans rfl, (blk_cell BK329.out 1).trans rfl, (blk_cell BK329.out 2).trans rfl⟩ (fun hHeld => ?_)
         clear hK K
         refine norm_ (a' := ?_) ?_ ?_
         rotate_left
         · show Act.put _ (some 29) _ = _
           simp only [Act.put, List.setIfInBounds_toArray, List.set_cons_zero, List.set_cons_succ, i64_w, i32_w]
           rfl
         exact norm_ (by (simp only [putAll, Act.put, List.setIfInBounds_toArray, List.set_cons_zero, List.set_cons_succ]; done)) (hJ2_5_6_7 (v335, v340, gb342, gb343) _ ⟨hHeld, (by (with_reducible repeat (fail)); exact Kd.N_mono HO336.out (fun _ hk => ⟨hk.2, ⟨hk.1.1, ⟨hk.1.2.1, ⟨hk.1.2.2.1, ⟨hk.1.2.2.2.1, hk.1.2.2.2.2⟩⟩⟩⟩⟩)), HO341.out, BK328.out, BK329.out, BK330.out, BK342.out, BK343.out, GW342.out, GE342.out, NB328_342.out, NB342_328.out, NB329_342.out, NB342_329.out, NB330_342.out, NB342_330.out, NB343_342.out, NB342_343.out, GW343.out, GE343.out, NB328_343.out, NB343_328.out, NB329_343.out, NB343_329.out, NB330_343.out, NB343_330.out, HB.out⟩)
     · skip
       rintro ⟨v335, v340, gb343⟩ w21 ⟨hS_, h0_, h1_, h2_, h3_, h4_, h5_, h6_, h7_, h8_, h9_, h10_, h11_, h12_, h13_, h14_⟩
       have HO336 : Aside0 (Kd.N k24 24 w21 w.heap.size (fun k_ => some k_ ≠ (v340 : Value).ownBlock ∧ k_ ≠ gb328 ∧ k_ ≠ gb329 ∧ k_ ≠ gb330 ∧ k_ ≠ gb343) v335 t334) := ⟨h0_⟩
       have HO341 : Aside0 (Kd.N k24 24 w21 w.heap.size (fun k_ => some k_ ≠ (v335 : Value).ownBlock ∧ k_ ≠ gb328 ∧ k_ ≠ gb329 ∧ k_ ≠ gb330 ∧ k_ ≠ gb343) v340 t339) := ⟨h1_⟩
       replace BK328 : Aside0 (w21.heap[gb328]? = some (.cells #[.int .i64 a0_0, .int .i64 a0_1, .slice A0_2 l0_2.length c0_2] 24 (0, 0))) := ⟨h2_⟩
       replace BK329 : Aside0 (w21.heap[gb329]? = some (.cells #[.int .i64 a1_0, .int .i64 a1_1, .slice A1_2 l1_2.length c1_2] 24 (0, 0))) := ⟨h3_⟩
       replace BK330 : Aside0 (w21.heap[gb330]? = some (.cells #[.int .i64 a4_0, .int .i64 a4_1, .int .i64 a4_2, .int .i64 a4_3, .int .i64 a4_4, .int .i64 a4_5, .int .i64 a4_6, .int .i64 a4_7] 25 (0, 0))) := ⟨h4_⟩
       have BK343 : Aside0 (w21.heap[gb343]? = some (.cells #[.int .i64 0, .int .i64 0, .slice none 0 0] 24 (0, 0))) := ⟨h5_⟩
       have GW343 : Aside0 (w.heap.size ≤ gb343) := ⟨h6_⟩
       have GE343 : Aside0 (w.heap.size ≤ gb343) := ⟨h7_⟩
       have NB328_343 : Aside0 (gb328 ≠ gb343) := ⟨h8_⟩
       have NB343_328 : Aside0 (gb343 ≠ gb328) := ⟨h9_⟩
       have NB329_343 : Aside0 (gb329 ≠ gb343) := ⟨h10_⟩
       have NB343_329 : Aside0 (gb343 ≠ gb329) := ⟨h11_⟩
       have NB330_343 : Aside0 (gb330 ≠ gb343) := ⟨h12_⟩
       have NB343_330 : Aside0 (gb343 ≠ gb330) := ⟨h13_⟩
       replace HB : Aside0 (Below w.heap.size w w21) := ⟨h14_⟩
       clear h0_ h1_ h2_ h3_ h4_ h5_ h6_ h7_ h8_ h9_ h10_ h11_ h12_ h13_ h14_
       have hHeld : w21.cell? ⟨gb328, 0, none⟩ = some (.int .i64 a0_0) ∧ w21.cell? ⟨gb328, 1, none⟩ = some (.int .i64 a0_1) ∧ w21.cell? ⟨gb328, 2, none⟩ = some (.slice A0_2 l0_2.length c0_2) ∧ w21.cell? ⟨gb329, 0, none⟩ = some (.int .i64 a1_0) ∧ w21.cell? ⟨gb329, 1, none⟩ = some (.int .i64 a1_1) ∧ w21.cell? ⟨gb329, 2, none⟩ = some (.slice A1_2 l1_2.length c1_2) := hS_
       refine norm_ (a' := ?_) ?_ ?_
       rotate_left
       · simp only [putAll, Act.put, List.setIfInBounds_toArray, List.set_cons_zero, List.set_cons_succ]
         rfl
       refine one_ (i := 6) (N := some 12) #[true, true, true, true, true, true, true, true, false, false] rfl rfl (one_of HT_.out (by kernel_rfl)) (by decide) (fun K hK => ?_)
       refine box_step ?hg (N := 12) ?hd (cs := #[.int .i64 0, .int .i64 0, .slice none 0 0]) (t := 24) ?hr ?_; (case hd => rfl); (case hg => rfl); (case hr => (go_simp; done))
       intro gb342 hg w22 hbox hb
       replace HO336 := Aside0.mk (Kd.N_below (Kd.N_elderB HO336.out gb342 (Nat.le_of_eq hg.symm)) hb)
       replace HO341 := Aside0.mk (Kd.N_below (Kd.N_elderB HO341.out gb342 (Nat.le_of_eq hg.symm)) hb)
       have BK342 := Aside0.mk (hbox)
       have GW342 := Aside0.mk ((by rw [hg]; exact (below_size HB.out) : w.heap.size ≤ gb342))
       have GE342 := Aside0.mk ((by rw [hg]; exact (below_size HB.out) : w.heap.size ≤ gb342))
       replace HB := Aside0.mk (below_step HB.out hb)
       have NB328_342 := Aside0.mk ((by rw [hg]; exact Nat.ne_of_lt (blk_lt BK328.out) : gb328 ≠ gb342))
       have NB342_328 := Aside0.mk ((by rw [hg]; exact Nat.ne_of_gt (blk_lt BK328.out) : gb342 ≠ gb328))
       replace BK328 := Aside0.mk (blk_below BK328.out hb)
       have NB329_342 := Aside0.mk ((by rw [hg]; exact Nat.ne_of_lt (blk_lt BK329.out) : gb329 ≠ gb342))
       have NB342_329 := Aside0.mk ((by rw [hg]; exact Nat.ne_of_gt (blk_lt BK329.out) : gb342 ≠ gb329))
       replace BK329 := Aside0.mk (blk_below BK329.out hb)
       have NB330_342 := Aside0.mk ((by rw [hg]; exact Nat.ne_of_lt (blk_lt BK330.out) : gb330 ≠ gb342))
       have NB342_330 := Aside0.mk ((by rw [hg]; exact Nat.ne_of_gt (blk_lt BK330.out) : gb342 ≠ gb330))
       replace BK330 := Aside0.mk (blk_below BK330.out hb)
       have NB343_342 := Aside0.mk ((by rw [hg]; exact Nat.ne_of_lt (blk_lt BK343.out) : gb343 ≠ gb342))
       have NB342_343 := Aside0.mk ((by rw [hg]; exact Nat.ne_of_gt (blk_lt BK343.out) : gb342 ≠ gb343))
       replace BK343 := Aside0.mk (blk_below BK343.out hb)
       clear hb hbox hg
       refine hK.out _ _ ⟨(blk_cell BK328.out 0).trans rfl, (blk_cell BK328.out 1).trans rfl, (blk_cell BK328.out 2).trans rfl, (blk_cell BK329.out 0).trans rfl, (blk_cell BK329.out 1).trans rfl, (blk_cell BK329.out 2).trans rfl⟩ (fun hHeld => ?_)
       clear hK K
       refine norm_ (a' := ?_) ?_ ?_
       rotate_left
       · show Act.put _ (some 12) _ = _
         simp only [Act.put, List.setIfInBounds_toArray, List.set_cons_zero, List.set_cons_succ, i64_w, i32_w]
         rfl
       exact norm_ (by (simp only [putAll, Act.put, List.setIfInBounds_toArray, List.set_cons_zero, List.set_cons_succ]; done)) (hJ2_5_6_7 (v335, v340, gb342, gb343) _ ⟨hHeld, (by (with_reducible repeat (fail)); exact Kd.N_mono HO336.out (fun _ hk => ⟨hk.1.1, ⟨hk.1.2.1, ⟨hk.1.2.2.1, ⟨hk.1.2.2.2.1, ⟨hk.2, hk.1.2.2.2.2⟩⟩⟩⟩⟩)), (by (with_reducible repeat (fail)); exact Kd.N_mono HO341.out (fun _ hk => ⟨hk.1.1, ⟨hk.1.2.1, ⟨hk.1.2.2.1, ⟨hk.1.2.2.2.1, ⟨hk.2, hk.1.2.2.2.2⟩⟩⟩⟩⟩)), BK328.out, BK329.out, BK330.out, BK342.out, BK343.out, GW342.out, GE342.out, NB328_342.out, NB342_328.out, NB329_342.out, NB342_329.out, NB330_342.out, NB342_330.out, NB343_342.out, NB342_343.out, GW343.out, GE343.out, NB328_343.out, NB343_328.out, NB329_343.out, NB343_329.out, NB330_343.out, NB343_330.out, HB.out⟩)
   · skip
     rintro ⟨v335, v340, gb342⟩ w21 ⟨hS_, h0_, h1_, h2_, h3_, h4_, h5_, h6_, h7_, h8_, h9_, h10_, h11_, h12_, h13_, h14_⟩
     have HO336 : Aside0 (Kd.N k24 24 w21 w.heap.size (fun k_ => some k_ ≠ (v340 : Value).ownBlock ∧ k_ ≠ gb328 ∧ k_ ≠ gb329 ∧ k_ ≠ gb330 ∧ k_ ≠ gb342) v335 t334) := ⟨h0_⟩
     have HO341 : Aside0 (Kd.N k24 24 w21 w.heap.size (fun k_ => some k_ ≠ (v335 : Value).ownBlock ∧ k_ ≠ gb328 ∧ k_ ≠ gb329 ∧ k_ ≠ gb330 ∧ k_ ≠ gb342) v340 t339) := ⟨h1_⟩
     replace BK328 : Aside0 (w21.heap[gb328]? = some (.cells #[.int .i64 a0_0, .int .i64 a0_1, .slice A0_2 l0_2.length c0_2] 24 (0, 0))) := ⟨h2_⟩
     replace BK329 : Aside0 (w21.heap[gb329]? = some (.cells #[.int .i64 a1_0, .int .i64 a1_1, .slice A1_2 l1_2.length c1_2] 24 (0, 0))) := ⟨h3_⟩
     replace BK330 : Aside0 (w21.heap[gb330]? = some (.cells #[.int .i64 a4_0, .int .i64 a4_1, .int .i64 a4_2, .int .i64 a4_3, .int .i64 a4_4, .int .i64 a4_5, .int .i64 a4_6, .int .i64 a4_7] 25 (0, 0))) := ⟨h4_⟩
     have BK342 : Aside0 (w21.heap[gb342]? = some (.cells #[.int .i64 0, .int .i64 0, .slice none 0 0] 24 (0, 0))) := ⟨h5_⟩
     have GW342 : Aside0 (w.heap.size ≤ gb342) := ⟨h6_⟩
     have GE342 : Aside0 (w.heap.size ≤ gb342) := ⟨h7_⟩
     have NB328_342 : Aside0 (gb328 ≠ gb342) := ⟨h8_⟩
     have NB342_328 : Aside0 (gb342 ≠ gb328) := ⟨h9_⟩
     have NB329_342 : Aside0 (gb329 ≠ gb342) := ⟨h10_⟩
     have NB342_329 : Aside0 (gb342 ≠ gb329) := ⟨h11_⟩
     have NB330_342 : Aside0 (gb330 ≠ gb342) := ⟨h12_⟩
     have NB342_330 : Aside0 (gb342 ≠ gb330) := ⟨h13_⟩
     replace HB : Aside0 (Below w.heap.size w w21) := ⟨h14_⟩
     clear h0_ h1_ h2_ h3_ h4_ h5_ h6_ h7_ h8_ h9_ h10_ h11_ h12_ h13_ h14_
     have hHeld : w21.cell? ⟨gb328, 0, none⟩ = some (.int .i64 a0_0) ∧ w21.cell? ⟨gb328, 1, none⟩ = some (.int .i64 a0_1) ∧ w21.cell? ⟨gb328, 2, none⟩ = some (.slice A0_2 l0_2.length c0_2) ∧ w21.cell? ⟨gb329, 0, none⟩ = some (.int .i64 a1_0) ∧ w21.cell? ⟨gb329, 1, none⟩ = some (.int .i64 a1_1) ∧ w21.cell? ⟨gb329, 2, none⟩ = some (.slice A1_2 l1_2.length c1_2) := hS_
     refine norm_ (a' := ?_) ?_ ?_
     rotate_left
     · simp only [putAll, Act.put, List.setIfInBounds_toArray, List.set_cons_zero, List.set_cons_succ]
       rfl
     refine one_ (i := 7) (N := some 13) #[true, true, true, true, true, true, true, true, false, false] rfl rfl (one_of HT_.out (by kernel_rfl)) (by decide) (fun K hK => ?_)
     refine box_step ?hg (N := 13) ?hd (cs := #[.int .i64 0, .int .i64 0, .slice none 0 0]) (t := 24) ?hr ?_; (case hd => rfl); (case hg => rfl); (case hr => (go_simp; done))
     intro gb343 hg w22 hbox hb
     replace HO336 := Aside0.mk (Kd.N_below (Kd.N_elderB HO336.out gb343 (Nat.le_of_eq hg.symm)) hb)
     replace HO341 := Aside0.mk (Kd.N_below (Kd.N_elderB HO341.out gb343 (Nat.le_of_eq hg.symm)) hb)
     have BK343 := Aside0.mk (hbox)
     have GW343 := Aside0.mk ((by rw [hg]; exact (below_size HB.out) : w.heap.size ≤ gb343))
     have GE343 := Aside0.mk ((by rw [hg]; exact (below_size HB.out) : w.heap.size ≤ gb343))
     replace HB := Aside0.mk (below_step HB.out hb)
     have NB328_343 := Aside0.mk ((by rw [hg]; exact Nat.ne_of_lt (blk_lt BK328.out) : gb328 ≠ gb343))
     have NB343_328 := Aside0.mk ((by rw [hg]; exact Nat.ne_of_gt (blk_lt BK328.out) : gb343 ≠ gb328))
     replace BK328 := Aside0.mk (blk_below BK328.out hb)
     have NB329_343 := Aside0.mk ((by rw [hg]; exact Nat.ne_of_lt (blk_lt BK329.out) : gb329 ≠ gb343))
     have NB343_329 := Aside0.mk ((by rw [hg]; exact Nat.ne_of_gt (blk_lt BK329.out) : gb343 ≠ gb329))
     replace BK329 := Aside0.mk (blk_below BK329.out hb)
     have NB330_343 := Aside0.mk ((by rw [hg]; exact Nat.ne_of_lt (blk_lt BK330.out) : gb330 ≠ gb343))
     have NB343_330 := Aside0.mk ((by rw [hg]; exact Nat.ne_of_gt (blk_lt BK330.out) : gb343 ≠ gb330))
     replace BK330 := Aside0.mk (blk_below BK330.out hb)
     have NB342_343 := Aside0.mk ((by rw [hg]; exact Nat.ne_of_lt (blk_lt BK342.out) : gb342 ≠ gb343))
     have NB343_342 := Aside0.mk ((by rw [hg]; exact Nat.ne_of_gt (blk_lt BK342.out) : gb343 ≠ gb342))
     replace BK342 := Aside0.mk (blk_below BK342.out hb)
     clear hb hbox hg
     refine hK.out _ _ ⟨(blk_cell BK328.out 0).trans rfl, (blk_cell BK328.out 1).trans rfl, (blk_cell BK328.out 2).trans rfl, (blk_cell BK329.out 0).trans rfl, (blk_cell BK329.out 1).trans rfl, (blk_cell BK329.out 2).trans rfl⟩ (fun hHeld => ?_)
     clear hK K
     refine norm_ (a' := ?_) ?_ ?_
     rotate_left
     · show Act.put _ (some 13) _ = _
       simp only [Act.put, List.setIfInBounds_toArray, List.set_cons_zero, List.set_cons_succ, i64_w, i32_w]
       rfl
     exact norm_ (by (simp only [putAll, Act.put, List.setIfInBounds_toArray, List.set_cons_zero, List.set_cons_succ]; done)) (hJ2_5_6_7 (v335, v340, gb342, gb343) _ ⟨hHeld, (by (with_reducible repeat (fail)); exact Kd.N_mono HO336.out (fun _ hk => ⟨hk.1.1, ⟨hk.1.2.1, ⟨hk.1.2.2.1, ⟨hk.1.2.2.2.1, ⟨hk.1.2.2.2.2, hk.2⟩⟩⟩⟩⟩)), (by (with_reducible repeat (fail)); exact Kd.N_mono HO341.out (fun _ hk => ⟨hk.1.1, ⟨hk.1.2.1, ⟨hk.1.2.2.1, ⟨hk.1.2.2.2.1, ⟨hk.1.2.2.2.2, hk.2⟩⟩⟩⟩⟩)), BK328.out, BK329.out, BK330.out, BK342.out, BK343.out, GW342.out, GE342.out, NB328_342.out, NB342_328.out, NB329_342.out, NB342_329.out, NB330_342.out, NB342_330.out, NB343_342.out, NB342_343.out, GW343.out, GE343.out, NB328_343.out, NB343_328.out, NB329_343.out, NB343_329.out, NB330_343.out, NB343_330.out, HB.out⟩)
 rintro ⟨v335, v340, gb342, gb343⟩ w22 ⟨hS_, h0_, h1_, h2_, h3_, h4_, h5_, h6_, h7_, h8_, h9_, h10_, h11_, h12_, h13_, h14_, h15_, h16_, h17_, h18_, h19_, h20_, h21_, h22_, h23_, h24_, h25_⟩
 have HO336 : Aside0 (Kd.N k24 24 w22 w.heap.size (fun k_ => some k_ ≠ (v340 : Value).ownBlock ∧ k_ ≠ gb328 ∧ k_ ≠ gb329 ∧ k_ ≠ gb330 ∧ k_ ≠ gb342 ∧ k_ ≠ gb343) v335 t334) := ⟨h0_⟩
 have HO341 : Aside0 (Kd.N k24 24 w22 w.heap.size (fun k_ => some k_ ≠ (v335 : Value).ownBlock ∧ k_ ≠ gb328 ∧ k_ ≠ gb329 ∧ k_ ≠ gb330 ∧ k_ ≠ gb342 ∧ k_ ≠ gb343) v340 t339) := ⟨h1_⟩
 replace BK328 : Aside0 (w22.heap[gb328]? = some (.cells #[.int .i64 a0_0, .int .i64 a0_1, .slice A0_2 l0_2.length c0_2] 24 (0, 0))) := ⟨h2_⟩
 replace BK329 : Aside0 (w22.heap[gb329]? = some (.cells #[.int .i64 a1_0, .int .i64 a1_1, .slice A1_2 l1_2.length c1_2] 24 (0, 0))) := ⟨h3_⟩
 replace BK330 : Aside0 (w22.heap[gb330]? = some (.cells #[.int .i64 a4_0, .int .i64 a4_1, .int .i64 a4_2, .int .i64 a4_3, .int .i64 a4_4, .int .i64 a4_5, .int .i64 a4_6, .int .i64 a4_7] 25 (0, 0))) := ⟨h4_⟩
 have BK342 : Aside0 (w22.heap[gb342]? = some (.cells #[.int .i64 0, .int .i64 0, .slice none 0 0] 24 (0, 0))) := ⟨h5_⟩
 have BK343 : Aside0 (w22.heap[gb343]? = some (.cells #[.int .i64 0, .int .i64 0, .slice none 0 0] 24 (0, 0))) := ⟨h6_⟩
 have GW342 : Aside0 (w.heap.size ≤ gb342) := ⟨h7_⟩
 have GE342 : Aside0 (w.heap.size ≤ gb342) := ⟨h8_⟩
 have NB328_342 : Aside0 (gb328 ≠ gb342) := ⟨h9_⟩
 have NB342_328 : Aside0 (gb342 ≠ gb328) := ⟨h10_⟩
 have NB329_342 : Aside0 (gb329 ≠ gb342) := ⟨h11_⟩
 have NB342_329 : Aside0 (gb342 ≠ gb329) := ⟨h12_⟩
 have NB330_342 : Aside0 (gb330 ≠ gb342) := ⟨h13_⟩
 have NB342_330 : Aside0 (gb342 ≠ gb330) := ⟨h14_⟩
 have NB343_342 : Aside0 (gb343 ≠ gb342) := ⟨h15_⟩
 have NB342_343 : Aside0 (gb342 ≠ gb343) := ⟨h16_⟩
 have GW343 : Aside0 (w.heap.size ≤ gb343) := ⟨h17_⟩
 have GE343 : Aside0 (w.heap.size ≤ gb343) := ⟨h18_⟩
 have NB328_343 : Aside0 (gb328 ≠ gb343) := ⟨h19_⟩
 have NB343_328 : Aside0 (gb343 ≠ gb328) := ⟨h20_⟩
 have NB329_343 : Aside0 (gb329 ≠ gb343) := ⟨h21_⟩
 have NB343_329 : Aside0 (gb343 ≠ gb329) := ⟨h22_⟩
 have NB330_343 : Aside0 (gb330 ≠ gb343) := ⟨h23_⟩
 have NB343_330 : Aside0 (gb343 ≠ gb330) := ⟨h24_⟩
 replace HB : Aside0 (Below w.heap.size w w22) := ⟨h25_⟩
 clear h0_ h1_ h2_ h3_ h4_ h5_ h6_ h7_ h8_ h9_ h10_ h11_ h12_ h13_ h14_ h15_ h16_ h17_ h18_ h19_ h20_ h21_ h22_ h23_ h24_ h25_
 have hHeld : w22.cell? ⟨gb328, 0, none⟩ = some (.int .i64 a0_0) ∧ w22.cell? ⟨gb328, 1, none⟩ = some (.int .i64 a0_1) ∧ w22.cell? ⟨gb328, 2, none⟩ = some (.slice A0_2 l0_2.length c0_2) ∧ w22.cell? ⟨gb329, 0, none⟩ = some (.int .i64 a1_0) ∧ w22.cell? ⟨gb329, 1, none⟩ = some (.int .i64 a1_1) ∧ w22.cell? ⟨gb329, 2, none⟩ = some (.slice A1_2 l1_2.length c1_2) := hS_
 obtain ⟨Ao25, co25, eo25⟩ := Kd.N_slice HO336.out
 (subst eo25)
 obtain ⟨Ao29, co29, eo29⟩ := Kd.N_slice HO341.out
 (subst eo29)
 refine norm_ (a' := ?_) ?_ ?_
 rotate_left
 · simp only [putAll, Act.put, List.setIfInBounds_toArray, List.set_cons_zero, List.set_cons_succ]
   rfl
 refine one_ (i := 8) (N := none) #[true, true, true, true, true, true, true, true, true, false] rfl rfl (one_of HT_.out (by kernel_rfl)) (by decide) (fun K hK => ?_)
 have hs23 : w22.cell? ⟨gb342, 0, none⟩ = some (.int .i64 0) := (blk_cell BK342.out 0).trans rfl
 have hfs23 := blk_frozen BK342.out 0
 have hns23_0 := NB328_342.out
 have hns23_1 := NB329_342.out
 have hns23_2 := NB330_342.out
 have hns23_4 := NB343_342.out
 have hms23_0 := NB342_328.out
 have hms23_1 := NB342_329.out
 have hms23_2 := NB342_330.out
 have hms23_4 := NB342_343.out
 have hs24 : w22.cell? ⟨gb342, 1, none⟩ = some (.int .i64 0) := (blk_cell BK342.out 1).trans rfl
 have hfs24 := blk_frozen BK342.out 1
 have hns24_0 := NB328_342.out
 have hns24_1 := NB329_342.out
 have hns24_2 := NB330_342.out
 have hns24_4 := NB343_342.out
 have hms24_0 := NB342_328.out
 have hms24_1 := NB342_329.out
 have hms24_2 := NB342_330.out
 have hms24_4 := NB342_343.out
 have hs26 : w22.cell? ⟨gb342, 2, none⟩ = some (.slice none 0 0) := (blk_cell BK342.out 2).trans rfl
 have hfs26 := blk_frozen BK342.out 2
 have hns26_0 := NB328_342.out
 have hns26_1 := NB329_342.out
 have hns26_2 := NB330_342.out
 have hns26_4 := NB343_342.out
 have hms26_0 := NB342_328.out
 have hms26_1 := NB342_329.out
 have hms26_2 := NB342_330.out
 have hms26_4 := NB342_343.out
 refine skip_ (w1 := ?_) (by rfl) rfl ?_ ?_
 rotate_left
 · go_simp
   rfl
 refine hK.out _ _ ⟨((cell_far (p := ⟨gb342, _, none⟩) NB328_342.out _).trans (((cell_far (p := ⟨gb342, _, none⟩) NB328_342.out _).trans (((cell_far (p := ⟨gb342, _, none⟩) NB328_342.out _).trans (hHeld.1)))))), ((cell_far (p := ⟨gb342, _, none⟩) NB328_342.out _).trans (((cell_far (p := ⟨gb342, _, none⟩) NB328_342.out _).trans (((cell_far (p := ⟨gb342, _, none⟩) NB328_342.out _).trans (hHeld.2.1)))))), ((cell_far (p := ⟨gb342, _, none⟩) NB328_342.out _).trans (((cell_far (p := ⟨gb342, _, none⟩) NB328_342.out _).trans (((cell_far (p := ⟨gb342, _, none⟩) NB328_342.out _).trans (hHeld.2.2.1)))))), ((cell_far (p := ⟨gb342, _, none⟩) NB329_342.out _).trans (((cell_far (p := ⟨gb342, _, none⟩) NB329_342.out _).trans (((cell_far (p := ⟨gb342, _, none⟩) NB329_342.out _).trans (hHeld.2.2.2.1)))))), ((cell_far (p := ⟨gb342, _, none⟩) NB329_342.out _).trans (((cell_far (p := ⟨gb342, _, none⟩) NB329_342.out _).trans (((cell_far (p := ⟨gb342, _, none⟩) NB329_342.out _).trans (hHeld.2.2.2.2.1)))))), ((cell_far (p := ⟨gb342, _, none⟩) NB329_342.out _).trans (((cell_far (p := ⟨gb342, _, none⟩) NB329_342.out _).trans (((cell_far (p := ⟨gb342, _, none⟩) NB329_342.out _).trans (hHeld.2.2.2.2.2))))))⟩ (fun hHeld => ?_)
 clear hK K
 refine one_ (i := 9) (N := none) #[true, true, true, true, true, true, true, true, true, true] rfl rfl (one_of HT_.out (by kernel_rfl)) (by decide) (fun K hK => ?_)
 have hs27 : w22.cell? ⟨gb343, 0, none⟩ = some (.int .i64 0) := (blk_cell BK343.out 0).trans rfl
 have hfs27 := blk_frozen BK343.out 0
 have hns27_0 := NB328_343.out
 have hns27_1 := NB329_343.out
 have hns27_2 := NB330_343.out
 have hns27_3 := NB342_343.out
 have hms27_0 := NB343_328.out
 have hms27_1 := NB343_329.out
 have hms27_2 := NB343_330.out
 have hms27_3 := NB343_342.out
 have hs28 : w22.cell? ⟨gb343, 1, none⟩ = some (.int .i64 0) := (blk_cell BK343.out 1).trans rfl
 have hfs28 := blk_frozen BK343.out 1
 have hns28_0 := NB328_343.out
 have hns28_1 := NB329_343.out
 have hns28_2 := NB330_343.out
 have hns28_3 := NB342_343.out
 have hms28_0 := NB343_328.out
 have hms28_1 := NB343_329.out
 have hms28_2 := NB343_330.out
 have hms28_3 := NB343_342.out
 have hs30 : w22.cell? ⟨gb343, 2, none⟩ = some (.slice none 0 0) := (blk_cell BK343.out 2).trans rfl
 have hfs30 := blk_frozen BK343.out 2
 have hns30_0 := NB328_343.out
 have hns30_1 := NB329_343.out
 have hns30_2 := NB330_343.out
 have hns30_3 := NB342_343.out
 have hms30_0 := NB343_328.out
 have hms30_1 := NB343_329.out
 have hms30_2 := NB343_330.out
 have hms30_3 := NB343_342.out
 refine skip_ (w1 := ?_) (by rfl) rfl ?_ ?_
 rotate_left
 · go_simp
   rfl
 refine hK.out _ _ ⟨((cell_far (p := ⟨gb343, _, none⟩) NB328_343.out _).trans (((cell_far (p := ⟨gb343, _, none⟩) NB328_343.out _).trans (((cell_far (p := ⟨gb343, _, none⟩) NB328_343.out _).trans (hHeld.1)))))), ((cell_far (p := ⟨gb343, _, none⟩) NB328_343.out _).trans (((cell_far (p := ⟨gb343, _, none⟩) NB328_343.out _).trans (((cell_far (p := ⟨gb343, _, none⟩) NB328_343.out _).trans (hHeld.2.1)))))), ((cell_far (p := ⟨gb343, _, none⟩) NB328_343.out _).trans (((cell_far (p := ⟨gb343, _, none⟩) NB328_343.out _).trans (((cell_far (p := ⟨gb343, _, none⟩) NB328_343.out _).trans (hHeld.2.2.1)))))), ((cell_far (p := ⟨gb343, _, none⟩) NB329_343.out _).trans (((cell_far (p := ⟨gb343, _, none⟩) NB329_343.out _).trans (((cell_far (p := ⟨gb343, _, none⟩) NB329_343.out _).trans (hHeld.2.2.2.1)))))), ((cell_far (p := ⟨gb343, _, none⟩) NB329_343.out _).trans (((cell_far (p := ⟨gb343, _, none⟩) NB329_343.out _).trans (((cell_far (p := ⟨gb343, _, none⟩) NB329_343.out _).trans (hHeld.2.2.2.2.1)))))), ((cell_far (p := ⟨gb343, _, none⟩) NB329_343.out _).trans (((cell_far (p := ⟨gb343, _, none⟩) NB329_343.out _).trans (((cell_far (p := ⟨gb343, _, none⟩) NB329_343.out _).trans (hHeld.2.2.2.2.2))))))⟩ (fun hHeld => ?_)
 clear hK K
 refine done_ (done_of HT_.out (by kernel_rfl)) ?_
 try go_wp2
 have n0_ : Aside0 (Kd.N k24 24 ((((((w22.setCell ⟨gb342, 0, none⟩ (.int .i64 t332)).setCell ⟨gb342, 1, none⟩ (.int .i64 t333)).setCell ⟨gb342, 2, none⟩ (.slice Ao25 t334.length co25)).setCell ⟨gb343, 0, none⟩ (.int .i64 t337)).setCell ⟨gb343, 1, none⟩ (.int .i64 t338)).setCell ⟨gb343, 2, none⟩ (.slice Ao29 t339.length co29)) w.heap.size (fun k_ => some k_ ≠ (.slice Ao29 t339.length co29 : Value).ownBlock ∧ k_ ≠ gb328 ∧ k_ ≠ gb329 ∧ k_ ≠ gb330 ∧ k_ ≠ gb342 ∧ k_ ≠ gb343) (.slice Ao25 t334.length co25) t334) := ⟨by (with_reducible repeat (fail)); exact Kd.N_mono (Kd.N_far (p := ⟨gb343, 2, none⟩) (Kd.N_far (p := ⟨gb343, 1, none⟩) (Kd.N_far (p := ⟨gb343, 0, none⟩) (Kd.N_far (p := ⟨gb342, 2, none⟩) (Kd.N_far (p := ⟨gb342, 1, none⟩) (Kd.N_far (p := ⟨gb342, 0, none⟩) (Kd.N_mono (Kd.N_mono HO336.out (fun k_ hk => (⟨hk, hk.2.2.2.2.1⟩ : _ ∧ k_ ≠ gb342))) (fun k_ hk => (⟨hk, hk.1.2.2.2.2.2⟩ : _ ∧ k_ ≠ gb343))) (fun _ hk => hk.1.2) (.int .i64 t332)) (fun _ hk => hk.1.2) (.int .i64 t333)) (fun _ hk => hk.1.2) (.slice Ao25 t334.length co25)) (fun _ hk => hk.2) (.int .i64 t337)) (fun _ hk => hk.2) (.int .i64 t338)) (fun _ hk => hk.2) (.slice Ao29 t339.length co29)) (fun _ hk => ⟨hk.1.1.1, ⟨hk.1.1.2.1, ⟨hk.1.1.2.2.1, ⟨hk.1.1.2.2.2.1, ⟨hk.1.1.2.2.2.2.1, hk.1.1.2.2.2.2.2⟩⟩⟩⟩⟩)⟩
 have n1_ : Aside0 (Kd.N k24 24 ((((((w22.setCell ⟨gb342, 0, none⟩ (.int .i64 t332)).setCell ⟨gb342, 1, none⟩ (.int .i64 t333)).setCell ⟨gb342, 2, none⟩ (.slice Ao25 t334.length co25)).setCell ⟨gb343, 0, none⟩ (.int .i64 t337)).setCell ⟨gb343, 1, none⟩ (.int .i64 t338)).setCell ⟨gb343, 2, none⟩ (.slice Ao29 t339.length co29)) w.heap.size (fun k_ => some k_ ≠ (.slice Ao25 t334.length co25 : Value).ownBlock ∧ k_ ≠ gb328 ∧ k_ ≠ gb329 ∧ k_ ≠ gb330 ∧ k_ ≠ gb342 ∧ k_ ≠ gb343) (.slice Ao29 t339.length co29) t339) := ⟨by (with_reducible repeat (fail)); exact Kd.N_mono (Kd.N_far (p := ⟨gb343, 2, none⟩) (Kd.N_far (p := ⟨gb343, 1, none⟩) (Kd.N_far (p := ⟨gb343, 0, none⟩) (Kd.N_far (p := ⟨gb342, 2, none⟩) (Kd.N_far (p := ⟨gb342, 1, none⟩) (Kd.N_far (p := ⟨gb342, 0, none⟩) (Kd.N_mono (Kd.N_mono HO341.out (fun k_ hk => (⟨hk, hk.2.2.2.2.1⟩ : _ ∧ k_ ≠ gb342))) (fun k_ hk => (⟨hk, hk.1.2.2.2.2.2⟩ : _ ∧ k_ ≠ gb343))) (fun _ hk => hk.1.2) (.int .i64 t332)) (fun _ hk => hk.1.2) (.int .i64 t333)) (fun _ hk => hk.1.2) (.slice Ao25 t334.length co25)) (fun _ hk => hk.2) (.int .i64 t337)) (fun _ hk => hk.2) (.int .i64 t338)) (fun _ hk => hk.2) (.slice Ao29 t339.length co29)) (fun _ hk => ⟨hk.1.1.1, ⟨hk.1.1.2.1, ⟨hk.1.1.2.2.1, ⟨hk.1.1.2.2.2.1, ⟨hk.1.1.2.2.2.2.1, hk.1.1.2.2.2.2.2⟩⟩⟩⟩⟩)⟩
 have n2_ : Aside0 (((((((w22.setCell ⟨gb342, 0, none⟩ (.int .i64 t332)).setCell ⟨gb342, 1, none⟩ (.int .i64 t333)).setCell ⟨gb342, 2, none⟩ (.slice Ao25 t334.length co25)).setCell ⟨gb343, 0, none⟩ (.int .i64 t337)).setCell ⟨gb343, 1, none⟩ (.int .i64 t338)).setCell ⟨gb343, 2, none⟩ (.slice Ao29 t339.length co29)).heap[gb328]? = some (.cells #[.int .i64 a0_0, .int .i64 a0_1, .slice A0_2 l0_2.length c0_2] 24 (0, 0))) := ⟨by (with_reducible repeat (fail)); refine blk_far ?_ NB328_343.out _; (with_reducible repeat (fail)); refine blk_far ?_ NB328_343.out _; (with_reducible repeat (fail)); refine blk_far ?_ NB328_343.out _; (with_reducible repeat (fail)); refine blk_far ?_ NB328_342.out _; (with_reducible repeat (fail)); refine blk_far ?_ NB328_342.out _; (with_reducible repeat (fail)); refine blk_far ?_ NB328_342.out _; (with_reducible repeat (fail)); exact BK328.out⟩
 have n3_ : Aside0 (((((((w22.setCell ⟨gb342, 0, none⟩ (.int .i64 t332)).setCell ⟨gb342, 1, none⟩ (.int .i64 t333)).setCell ⟨gb342, 2, none⟩ (.slice Ao25 t334.length co25)).setCell ⟨gb343, 0, none⟩ (.int .i64 t337)).setCell ⟨gb343, 1, none⟩ (.int .i64 t338)).setCell ⟨gb343, 2, none⟩ (.slice Ao29 t339.length co29)).heap[gb329]? = some (.cells #[.int .i64 a1_0, .int .i64 a1_1, .slice A1_2 l1_2.length c1_2] 24 (0, 0))) := ⟨by (with_reducible repeat (fail)); refine blk_far ?_ NB329_343.out _; (with_reducible repeat (fail)); refine blk_far ?_ NB329_343.out _; (with_reducible repeat (fail)); refine blk_far ?_ NB329_343.out _; (with_reducible repeat (fail)); refine blk_far ?_ NB329_342.out _; (with_reducible repeat (fail)); refine blk_far ?_ NB329_342.out _; (with_reducible repeat (fail)); refine blk_far ?_ NB329_342.out _; (with_reducible repeat (fail)); exact BK329.out⟩
 have n4_ : Aside0 (((((((w22.setCell ⟨gb342, 0, none⟩ (.int .i64 t332)).setCell ⟨gb342, 1, none⟩ (.int .i64 t333)).setCell ⟨gb342, 2, none⟩ (.slice Ao25 t334.length co25)).setCell ⟨gb343, 0, none⟩ (.int .i64 t337)).setCell ⟨gb343, 1, none⟩ (.int .i64 t338)).setCell ⟨gb343, 2, none⟩ (.slice Ao29 t339.length co29)).heap[gb330]? = some (.cells #[.int .i64 a4_0, .int .i64 a4_1, .int .i64 a4_2, .int .i64 a4_3, .int .i64 a4_4, .int .i64 a4_5, .int .i64 a4_6, .int .i64 a4_7] 25 (0, 0))) := ⟨by (with_reducible repeat (fail)); refine blk_far ?_ NB330_343.out _; (with_reducible repeat (fail)); refine blk_far ?_ NB330_343.out _; (with_reducible repeat (fail)); refine blk_far ?_ NB330_343.out _; (with_reducible repeat (fail)); refine blk_far ?_ NB330_342.out _; (with_reducible repeat (fail)); refine blk_far ?_ NB330_342.out _; (with_reducible repeat (fail)); refine blk_far ?_ NB330_342.out _; (with_reducible repeat (fail)); exact BK330.out⟩
 have n5_ : Aside0 (((((((w22.setCell ⟨gb342, 0, none⟩ (.int .i64 t332)).setCell ⟨gb342, 1, none⟩ (.int .i64 t333)).setCell ⟨gb342, 2, none⟩ (.slice Ao25 t334.length co25)).setCell ⟨gb343, 0, none⟩ (.int .i64 t337)).setCell ⟨gb343, 1, none⟩ (.int .i64 t338)).setCell ⟨gb343, 2, none⟩ (.slice Ao29 t339.length co29)).heap[gb342]? = some (.cells #[.int .i64 t332, .int .i64 t333, .slice Ao25 t334.length co25] 24 (0, 0))) := ⟨by (with_reducible repeat (fail)); refine blk_far ?_ NB342_343.out _; (with_reducible repeat (fail)); refine blk_far ?_ NB342_343.out _; (with_reducible repeat (fail)); refine blk_far ?_ NB342_343.out _; (with_reducible repeat (fail)); refine blk_put (cs := #[.int .i64 t332, .int .i64 t333, .slice none 0 0]) ?_ 2 _ rfl; (with_reducible repeat (fail)); refine blk_put (cs := #[.int .i64 t332, .int .i64 0, .slice none 0 0]) ?_ 1 _ rfl; (with_reducible repeat (fail)); refine blk_put (cs := #[.int .i64 0, .int .i64 0, .slice none 0 0]) ?_ 0 _ rfl; (with_reducible repeat (fail)); exact BK342.out⟩
 have n6_ : Aside0 (((((((w22.setCell ⟨gb342, 0, none⟩ (.int .i64 t332)).setCell ⟨gb342, 1, none⟩ (.int .i64 t333)).setCell ⟨gb342, 2, none⟩ (.slice Ao25 t334.length co25)).setCell ⟨gb343, 0, none⟩ (.int .i64 t337)).setCell ⟨gb343, 1, none⟩ (.int .i64 t338)).setCell ⟨gb343, 2, none⟩ (.slice Ao29 t339.length co29)).heap[gb343]? = some (.cells #[.int .i64 t337, .int .i64 t338, .slice Ao29 t339.length co29] 24 (0, 0))) := ⟨by (with_reducible repeat (fail)); refine blk_put (cs := #[.int .i64 t337, .int .i64 t338, .slice none 0 0]) ?_ 2 _ rfl; (with_reducible repeat (fail)); refine blk_put (cs := #[.int .i64 t337, .int .i64 0, .slice none 0 0]) ?_ 1 _ rfl; (with_reducible repeat (fail)); refine blk_put (cs := #[.int .i64 0, .int .i64 0, .slice none 0 0]) ?_ 0 _ rfl; (with_reducible repeat (fail)); refine blk_far ?_ NB343_342.out _; (with_reducible repeat (fail)); refine blk_far ?_ NB343_342.out _; (with_reducible repeat (fail)); refine blk_far ?_ NB343_342.out _; (with_reducible repeat (fail)); exact BK343.out⟩
 have n7_ : Aside0 (Below w.heap.size w ((((((w22.setCell ⟨gb342, 0, none⟩ (.int .i64 t332)).setCell ⟨gb342, 1, none⟩ (.int .i64 t333)).setCell ⟨gb342, 2, none⟩ (.slice Ao25 t334.length co25)).setCell ⟨gb343, 0, none⟩ (.int .i64 t337)).setCell ⟨gb343, 1, none⟩ (.int .i64 t338)).setCell ⟨gb343, 2, none⟩ (.slice Ao29 t339.length co29))) := ⟨by repeat ((with_reducible first | exact HB.out | refine below_set ?_ GE342.out | refine below_set ?_ GE343.out))⟩
 (try clear HO336)
 (try clear HO341)
 (try clear BK328)
 (try clear BK329)
 (try clear BK330)
 (try clear BK342)
 (try clear BK343)
 (try clear HB)
 generalize ((((((w22.setCell ⟨gb342, 0, none⟩ (.int .i64 t332)).setCell ⟨gb342, 1, none⟩ (.int .i64 t333)).setCell ⟨gb342, 2, none⟩ (.slice Ao25 t334.length co25)).setCell ⟨gb343, 0, none⟩ (.int .i64 t337)).setCell ⟨gb343, 1, none⟩ (.int .i64 t338)).setCell ⟨gb343, 2, none⟩ (.slice Ao29 t339.length co29)) = w31 at n0_ n1_ n2_ n3_ n4_ n5_ n6_ n7_ ⊢
 have HO336 := n0_
 have HO341 := n1_
 have BK328 := n2_
 have BK329 := n3_
 have BK330 := n4_
 have BK342 := n5_
 have BK343 := n6_
 have HB := n7_
 clear n0_ n1_ n2_ n3_ n4_ n5_ n6_ n7_
 replace HO336 := Aside0.mk (Kd.N_drew HO336.out)
 replace HO341 := Aside0.mk (Kd.N_drew HO341.out)
 replace BK328 := Aside0.mk (blk_drew BK328.out)
 replace BK329 := Aside0.mk (blk_drew BK329.out)
 replace BK330 := Aside0.mk (blk_drew BK330.out)
 replace BK342 := Aside0.mk (blk_drew BK342.out)
 replace BK343 := Aside0.mk (blk_drew BK343.out)
 replace HB := Aside0.mk (below_drew1 HB.out)
 refine formelaw14_ValueOrder.calls_b (hu24 := hu24) (hu25 := hu25) (HR0_2 := HR0_2) (HC0_2 := HC0_2) (HR1_2 := HR1_2) (HC1_2 := HC1_2) (A9 := A9) (A10 := A10) (A11 := A11) (HC12 := HC12) (GW328 := GW328) (GW329 := GW329) (GW330 := GW330) (NB328_330 := NB328_330) (NB330_328 := NB330_328) (NB329_330 := NB329_330) (NB330_329 := NB330_329) (HT_ := HT_) (HW_ := HW_) (hS_ := hS_) (GW342 := GW342) (NB328_342 := NB328_342) (NB342_328 := NB342_328) (NB329_342 := NB329_342) (NB342_329 := NB342_329) (NB330_342 := NB330_342) (NB342_330 := NB342_330) (NB343_342 := NB343_342) (NB342_343 := NB342_343) (GW343 := GW343) (NB328_343 := NB328_343) (NB343_328 := NB343_328) (NB329_343 := NB329_343) (NB343_329 := NB343_329) (NB330_343 := NB330_343) (NB343_330 := NB343_330) (hns23_0 := hns23_0) (hns23_1 := hns23_1) (hns23_2 := hns23_2) (hns23_4 := hns23_4) (hms23_0 := hms23_0) (hms23_1 := hms23_1) (hms23_2 := hms23_2) (hms23_4 := hms23_4) (hns24_0 := hns24_0) (hns24_1 := hns24_1) (hns24_2 := hns24_2) (hns24_4 := hns24_4) (hms24_0 := hms24_0) (hms24_1 := hms24_1) (hms24_2 := hms24_2) (hms24_4 := hms24_4) (hns26_0 := hns26_0) (hns26_1 := hns26_1) (hns26_2 := hns26_2) (hns26_4 := hns26_4) (hms26_0 := hms26_0) (hms26_1 := hms26_1) (hms26_2 := hms26_2) (hms26_4 := hms26_4) (hns27_0 := hns27_0) (hns27_1 := hns27_1) (hns27_2 := hns27_2) (hns27_3 := hns27_3) (hms27_0 := hms27_0) (hms27_1 := hms27_1) (hms27_2 := hms27_2) (hms27_3 := hms27_3) (hns28_0 := hns28_0) (hns28_1 := hns28_1) (hns28_2 := hns28_2) (hns28_3 := hns28_3) (hms28_0 := hms28_0) (hms28_1 := hms28_1) (hms28_2 := hms28_2) (hms28_3 := hms28_3) (hns30_0 := hns30_0) (hns30_1 := hns30_1) (hns30_2 := hns30_2) (hns30_3 := hns30_3) (hms30_0 := hms30_0) (hms30_1 := hms30_1) (hms30_2 := hms30_2) (hms30_3 := hms30_3) (hHeld := hHeld) (HO336 := HO336) (HO341 := HO341) (BK328 := BK328) (BK329 := BK329) (BK330 := BK330) (BK342 := BK342) (BK343 := BK343) (HB := HB) (az_ := ?az_)
 all_goals assumption
end Go.Proofs.Ytdigjjncoeaiiaa.PAll
